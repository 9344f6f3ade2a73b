/- A part of the proofs of statements of this seat: contracts of functions, and the plain laws that they lean on. No conditions. -/
import Derived.Test.YtoagcglbkeomgaaGreatDoorO25
import Derived.ProofKit
import Derived.OpenShut
import Derived.ChangeOld
import Derived.Below
import Derived.SizedLaws
import Derived.JoinedOf
import Derived.Deep.Slices
import Derived.Deep.Fields
set_option linter.unusedVariables false
set_option linter.unusedSimpArgs false
set_option linter.unusedSectionVars false
set_option maxHeartbeats 4000000
namespace Go.Sl
open Go.Proofs
set_option maxRecDepth 4000
variable{κ:Ctx}{I:List Item}{n:Int}
abbrev evs41:List Ev:=[⟨1,1,0,1,1,0,1⟩,⟨1,2,1,2,1,0,1⟩,⟨1,3,0,2,1,0,1⟩]
theorem evs41_fit:∀e∈evs41,FitOk 3 e:=λe Z=>fitE_ok.1 (by
 simp only [List.mem_cons,List.not_mem_nil,or_false] at Z
 rcases Z with rfl|rfl|rfl<;>decide)
theorem evs41_run:runB 0 evs41=evs41:=by decide+kernel
theorem evs41_lates:BfS.lates 0 ⟨-1, -1,[]⟩ evs41=0:=by decide+kernel
theorem evs41_all:(EnS.run 1 0 0 0 evs41).S=[⟨0,1,1,0,1,1⟩,⟨0,2,1,0,1,3⟩,⟨1,2,1,0,1,2⟩]:=by
 rw [run_eq,evs41_run];decide+kernel
theorem st41(T:Int)(S:List Lk)(o:List Ev)(e:Ev)(Z:e.tm=T):evStep 2 2 0 (S,o) e=(ep (ageL 2 0 T S o).1 e,(ageL 2 0 T S o).2++[e]):=by rw [←Z];rfl
theorem evs41_age:(EnS.run 2 2 0 0 evs41).S=[⟨0,2,1,0,1,3⟩,⟨1,2,1,0,1,2⟩]:=by
 have M:evStep 2 2 0 ([],[]) ⟨1,1,0,1,1,0,1⟩=([⟨0,1,1,0,1,1⟩],[⟨1,1,0,1,1,0,1⟩]):=by
  rw [st41 1 _ _ _ rfl,ageL_stop<|by decide+kernel];decide+kernel
 have a2:evStep 2 2 0 ([⟨0,1,1,0,1,1⟩],[⟨1,1,0,1,1,0,1⟩]) ⟨1,2,1,2,1,0,1⟩=([⟨0,1,1,0,1,1⟩,⟨1,2,1,0,1,2⟩],[⟨1,1,0,1,1,0,1⟩,⟨1,2,1,2,1,0,1⟩]):=by
  rw [st41 2 _ _ _ rfl,ageL_stop<|by decide+kernel];decide+kernel
 have Z:List.filter (inW 2 2 0 (minT ([⟨0,1,1,0,1,1⟩,⟨1,2,1,0,1,2⟩]:List Lk)+2) [⟨0,1,1,0,1,1⟩,⟨1,2,1,0,1,2⟩]) ([⟨0,1,1,0,1,1⟩,⟨1,2,1,0,1,2⟩]:List Lk)=[⟨1,2,1,0,1,2⟩]:=by decide+kernel
 have a3:(evStep 2 2 0 ([⟨0,1,1,0,1,1⟩,⟨1,2,1,0,1,2⟩],[⟨1,1,0,1,1,0,1⟩,⟨1,2,1,2,1,0,1⟩]) ⟨1,3,0,2,1,0,1⟩).1=[⟨0,2,1,0,1,3⟩,⟨1,2,1,0,1,2⟩]:=by
  rw [st41 3 _ _ _ rfl,ageL_step<|by decide+kernel,Z,ageL_stop<|by decide+kernel];decide+kernel
 rw [run_eq,evs41_run]
 show (evStep 2 2 0 (evStep 2 2 0 (evStep 2 2 0 ([],[]) ⟨1,1,0,1,1,0,1⟩) ⟨1,2,1,2,1,0,1⟩) ⟨1,3,0,2,1,0,1⟩).1=_
 rw [M,a2,a3]
theorem Awake41_ok(hT:TabRd κ I 0 tzCells):eu Tryz.prog κ 11 [] I (λr J=>r = .bool true/\I=J):=by
 refine Ce0 Tryz.func11 C C ?_
 refine Af<|Ga C<|Ad<|Af<|Gr (Bp (cells:=[_,_,_,_,_,_,_]) ty54 Df pl54 C C)<|Gr (Bp (cells:=[_,_,_,_,_,_,_]) ty54 Df pl54 C C)<|Gr (Bp (cells:=[_,_,_,_,_,_,_]) ty54 Df pl54 C C)<|Ge1 (Cm (α:=Ev) (cs:=[e7 1,e7 1,e7 0,e7 1,e7 1,e7 0,e7 1,e7 1,e7 2,e7 1,e7 2,e7 1,e7 0,e7 1,e7 1,e7 3,e7 0,e7 2,e7 1,e7 0,e7 1]) (xs:=[⟨1,1,0,1,1,0,1⟩,⟨1,2,1,2,1,0,1⟩,⟨1,3,0,2,1,0,1⟩]) Ar ty54 C C dc dc C kr C C) λM=>?_
 refine Ga C<|Ad<|Af<|Gr (Bp (cells:=[_,_,_]) ty29 Ep pl29 C C)<|Gm C<|G.e (Aj c_ C C<|KRun_ok (T:=I) (evs:=evs41) (by repeat (first|exact Bz _|apply Bx|apply B5)) Bg dc dc dc evs41_fit dc<|Bj hT Av) ?_
 rintro _ _ ⟨_,_,⟨Z,Y3,rfl,ak,rfl⟩,rfl,rfl⟩
 refine Ec (J:=vc 54 (.slice M 3 3) (evs41)::(Y3++I)) (C5<|Di (A:=Y3) (L:=[vc 54 (.slice M 3 3) evs41]) (T:=I)) ?_
 refine Gm C<|Gr (Al C C)<|Gr (Al C C)<|Gr (Al C C)<|Ge1 (A2 ty47 C) λb4=>Ge0 (B9 (cs:=[_,_,_,_,_,_,_,_,_,_,_,_,_,_,_,_,_,_,_,_,_,_,_,_,_]) (vs:=[_,_,_,_,_,_,_,_,_,_,_,_,_,_,_,_,_,_,_,_,_,_,_,_,_]) (cs':=[_,_,_,_,_,_,_,_,_,_,_,_,_,_,_,_,_,_,_,_,_,_,_,_,_]) ty47) ?_
 refine Ga C<|Ga C<|Ad<|Am (S4 4 3 2 1 C C C C)<|Af<|Gr (Bp (cells:=[_,_,_]) ty29 Ep pl29 C C)<|Gm C<|G.e (Aj c_ C C<|KRun_ok (T:=(Y3++I)) (evs:=evs41) (by repeat (first|exact Bz _|apply Bx|apply B5)) Bg dc dc dc evs41_fit dc<|Bj hT Av) ?_
 rintro _ _ ⟨_,_,⟨ao,Y6,rfl,aj,rfl⟩,rfl,rfl⟩
 refine Ec (J:=e8 b4 [e7 2,e7 2,e7 0,e7 0,e7<|(EnS.run 2 2 0 0 evs41).b.lt,e7<|(EnS.run 2 2 0 0 evs41).b.mr,.slice Z.w.a (EnS.run 2 2 0 0 evs41).b.ws.length Z.w.c,e7 3,.slice Z.l.a ((EnS.run 2 2 0 0 evs41).S).length Z.l.c,e7 3,.slice Z.p.e1.a (edgesK<|(EnS.run 2 2 0 0 evs41).S).length Z.p.e1.c,.slice Z.p.n1.a (coreN 3<|edgesK<|(EnS.run 2 2 0 0 evs41).S).length Z.p.n1.c,e7 3,.slice Z.p.e2.a (edgesK<|(EnS.run 2 2 0 0 evs41).S).length Z.p.e2.c,.slice Z.p.n2.a (trussG 3<|edgesK<|(EnS.run 2 2 0 0 evs41).S).length Z.p.n2.c,e7 3,.slice Z.p.e3.a (edgesK<|(EnS.run 2 2 0 0 evs41).S).length Z.p.e3.c,e7<|triS 3 (edgesK<|(EnS.run 2 2 0 0 evs41).S) / 3,.slice Z.p.n3.a (triL 3<|edgesK<|(EnS.run 2 2 0 0 evs41).S).length Z.p.n3.c,e7 3,.slice Z.p.e4.a (edgesK<|(EnS.run 2 2 0 0 evs41).S).length Z.p.e4.c,e7<|wedgeC 3<|edgesK<|(EnS.run 2 2 0 0 evs41).S,e7<|quadC 3<|edgesK<|(EnS.run 2 2 0 0 evs41).S,.slice Z.p.n4.a (quadL 3<|edgesK<|(EnS.run 2 2 0 0 evs41).S).length Z.p.n4.c,e7<|(EnS.run 2 2 0 0 evs41).tm] 47::vc 54 (.slice M 3 3) (evs41)::(Y6++(Y3++I))) (C5<|Di (A:=Y6) (L:=[e8 b4 [e7 2,e7 2,e7 0,e7 0,e7<|(EnS.run 2 2 0 0 evs41).b.lt,e7<|(EnS.run 2 2 0 0 evs41).b.mr,.slice Z.w.a (EnS.run 2 2 0 0 evs41).b.ws.length Z.w.c,e7 3,.slice Z.l.a ((EnS.run 2 2 0 0 evs41).S).length Z.l.c,e7 3,.slice Z.p.e1.a (edgesK<|(EnS.run 2 2 0 0 evs41).S).length Z.p.e1.c,.slice Z.p.n1.a (coreN 3<|edgesK<|(EnS.run 2 2 0 0 evs41).S).length Z.p.n1.c,e7 3,.slice Z.p.e2.a (edgesK<|(EnS.run 2 2 0 0 evs41).S).length Z.p.e2.c,.slice Z.p.n2.a (trussG 3<|edgesK<|(EnS.run 2 2 0 0 evs41).S).length Z.p.n2.c,e7 3,.slice Z.p.e3.a (edgesK<|(EnS.run 2 2 0 0 evs41).S).length Z.p.e3.c,e7<|triS 3 (edgesK<|(EnS.run 2 2 0 0 evs41).S) / 3,.slice Z.p.n3.a (triL 3<|edgesK<|(EnS.run 2 2 0 0 evs41).S).length Z.p.n3.c,e7 3,.slice Z.p.e4.a (edgesK<|(EnS.run 2 2 0 0 evs41).S).length Z.p.e4.c,e7<|wedgeC 3<|edgesK<|(EnS.run 2 2 0 0 evs41).S,e7<|quadC 3<|edgesK<|(EnS.run 2 2 0 0 evs41).S,.slice Z.p.n4.a (quadL 3<|edgesK<|(EnS.run 2 2 0 0 evs41).S).length Z.p.n4.c,e7<|(EnS.run 2 2 0 0 evs41).tm] 47,vc 54 (.slice M 3 3) evs41]) (T:=(Y3++I))) ?_
 refine Gm C<|Gr (Al C C)<|Gr (Al C C)<|Gr (Al C C)<|Ge1 (A2 ty47 C) λb7=>Ge0 (B9 (cs:=[_,_,_,_,_,_,_,_,_,_,_,_,_,_,_,_,_,_,_,_,_,_,_,_,_]) (vs:=[_,_,_,_,_,_,_,_,_,_,_,_,_,_,_,_,_,_,_,_,_,_,_,_,_]) (cs':=[_,_,_,_,_,_,_,_,_,_,_,_,_,_,_,_,_,_,_,_,_,_,_,_,_]) ty47) ?_
 refine Ga C<|Ga C<|Ad<|Am (S5 7 5 4 3 2 C C C C C)<|Af<|Gm C<|Gr (Bs C C)<|Gm C<|Br (d:=28) C (λah=>?_)<|λah=>?_
 ·refine e9 (Ai C) (e9 (Bs C C)<|Gr (A6 C C)<|Gm C<|Br (d:=32) C (λae=>?_)<|λae=>?_)
  ·refine e9 (Ac fld47_2 C) (e9 (Ac fld35_1 C)<|e9 (A5 ty33) ?_)
   refine e9 (Bk A3 C)<|e9 (Bs C C)<|Gr (A6 C C)<|Gm C<|Br (d:=39) C (λab=>?_)<|λab=>?_
   ·refine e9 (Ac fld47_5 C) (e9 (Ac fld43_1 C)<|e9 (A5 ef) ?_)
    refine e9 (Bs C C)<|Gr (A6 C C)<|Gm C<|Br (d:=45) C (λad=>?_)<|λad=>?_
    ·refine e9 (Ai C) (e9 (Bs C C)<|Gr (A6 C C)<|Gm C<|Br (d:=49) C (λai=>?_)<|λai=>?_)
     ·refine e9 (Ac fld47_5 C) (e9 (Ac fld43_1 C)<|e9 (A5 ef) ?_)
      refine e9 (Bs C C)<|Gr (A6 C C)<|Gm C<|Br (d:=55) C (λaa=>?_)<|λaa=>?_
      ·refine e9 (Ac fld47_3 C) (e9 (Ac fld40_1 C)<|e9 (A5 ty22) ?_)
       refine Dy (Cq C C C) (Cm (α:=Int) (cs:=[_,_,_]) (xs:=[2,2,2]) Ab ef C C dc dc C C C C) ?_
       rintro _ _ ⟨an,rfl,rfl⟩
       refine Dy (Cq C C C) (Aj c_ C C<|Cmp_ok (KpF.fit aj<|Ci (κ:=κ)<|by repeat (first|exact Bz _|apply Bx|apply B5)).p.n1 Bg) ?_
       rintro _ _ ⟨_,_,⟨rfl,rfl⟩,rfl,rfl⟩
       exact e9 (Bs C C)<|Gr (A6 C C)<|Ga C<|Ad<|Am (S1 0 C)<|Az<|A1 C C I (by first|exact Av|exact FitW) ⟨rfl,rfl⟩
      exact absurd (show triS 3 (edgesK (EnS.run 1 0 0 0 evs41).S) / 3=1 by rw [evs41_all];decide+kernel) aa
     exact absurd rfl ai
    exact absurd (show triS 3 (edgesK (EnS.run 2 2 0 0 evs41).S) / 3=0 by rw [evs41_age];decide+kernel) ad
   exact absurd (show (((EnS.run 2 2 0 0 evs41).S.length:Nat):Int)=2 by rw [evs41_age];rfl) ab
  exact absurd (show ((BfS.lates 0 ⟨-1, -1,[]⟩ evs41:Nat):Int)=0 by rw [evs41_lates];rfl) ae
 exact absurd rfl ah
theorem swap_adj{α:Type}:∀(xs:List α) (i:Nat) (h:i+1<xs.length),((xs.set i (xs[i+1]'h)).set (i+1) (xs[i]'om)).Perm xs
 |[],i,h=>by simp at h
 |[a],i,h=>by simp at h
 |a::b::l,0,_=>List.Perm.swap a b l
 |a::b::l,i+1,h=>by
  have Z:=swap_adj (b::l) i (by simpa using h)
  simpa using Z.cons a
theorem swap_at{α:Type}[Inhabited α]{xs:List α}{i:Nat}(h:i+1<xs.length):(List.set (List.set xs (i:Int).toNat (e_ xs ((i:Int)+1))) ((i:Int)+1).toNat (e_ xs i)).Perm xs:=by
 have Z:=swap_adj xs i h
 have e:((i:Int)+1)=((i+1:Nat):Int):=by omega
 rw [e,Cx xs (i+1) h,Cx xs i om,Int.toNat_natCast,Int.toNat_natCast]
 exact Z
structure TriE (n:Int) (k:Nat) (o:List Ev):Prop where
 len:o.length=k
 fit:∀e∈o,FitOk n e
 tm:∀e∈o,0<=e.tm/\e.tm<3*(k:Int)
 nod:(o.map Ev.tm).Nodup
theorem TriE.nil:TriE n 0 []:=⟨rfl,(λe Z=>by cases Z),(λe Z=>by cases Z),List.nodup_nil⟩
theorem TriE.next{x:Int}{k:Nat}{o:List Ev}{e:Ev}(h:TriE n k o)(M:FitOk n e)(ht:e.tm=3*(k:Int)+x)(hx:0<=x/\x<2):TriE n (k+1) (o++[e]):=by
 refine ⟨by rw [List.length_append,h.len];rfl,λa ha=>?_,λa ha=>?_,?_⟩
 ·rcases List.mem_append.1 ha with ha|ha
  ·exact h.fit a ha
  rw [List.mem_singleton.1 ha];exact M
 ·rcases List.mem_append.1 ha with ha|ha
  ·have:=h.tm a ha;omega
  rw [List.mem_singleton.1 ha];omega
 rw [List.map_append,List.nodup_append]
 refine ⟨h.nod,by simp,λa ha b Z=>?_⟩
 obtain ⟨y,hy,rfl⟩:=List.mem_map.1 ha
 have h1:=h.tm y hy
 simp only [List.map_cons,List.map_nil,List.mem_singleton] at Z
 subst Z
 omega
theorem EngineOrder_walk{la:Option Addr}{ln lc:Nat}{ls:List Int}(hl:Sl κ I (.slice la ln lc) ls)(hT:TabRd κ I 0 tzCells):eu Tryz.prog κ 5 [.slice la ln lc] I (λr J=>r = .bool true/\I=J):=by
 refine Ce1 Tryz.func5 C C ?_
 refine Af<|Ga C<|Ad<|Ap<|Af<|Gm C<|Gc0 (Aj c_ C C Few_ok) ?_
 refine Gr (D9 C)<|Ad<|A7 C (λa9=>?_)<|λa9=>?_
 ·refine Af (G.e (Aj c_ C C<|Awake41_ok<|Bj hT Av) ?_)
  rintro _ _ ⟨_,_,⟨rfl,rfl⟩,rfl,rfl⟩
  exact Ga C<|Ad<|Az<|Aq<|A1 C C I (by first|exact Av|exact FitW) ⟨rfl,rfl⟩
 refine Aw<|Ah<|Af<|Gm C<|G.e (Aj c_ C C New_ok) ?_
 rintro _ _ ⟨_,_,⟨ai,rfl,rfl⟩,rfl,rfl⟩
 have bn:(0:Int)<=0:=Int.le_refl _
 refine Ga C<|Ad<|Af<|Gm C<|G.e (Aj c_ C C<|Next_ok (by repeat (first|exact AtF.head _ _|apply AtF.tail)) (A4 hl) om om) ?_
 rintro _ _ ⟨_,_,⟨x2,i3,rfl,bk,hi3,rfl⟩,rfl,rfl⟩
 refine Gr (Rad C C)<|Gm C<|G.e (Aj c_ C C<|MkWindowV_at (by repeat (first|exact AtF.head _ _|apply AtF.tail)) (λ_=>Bt hl Av) om  ) ?_
 rintro _ _ ⟨_,_,⟨⟨aa,ab,M,i7⟩,⟨⟨rfl,ap⟩,a1⟩,rfl⟩,rfl,rfl⟩
 have a1:0<=i7:=a1
 refine Ge1 (A2 ty29 C) λb8=>Ga C<|Ge0 (C8 ty29) ?_
 refine Ad<|Am (S3 4 5 3 C C C)<|Af<|Ga C<|Ad<|Ap<|Af<|Ga C<|Ad<|A0<|B1 (σ:=Nat×Int×(Option Addr)×Nat×(List Ev)) (λs=>([(3,.pointer<|some ⟨ai,0,none⟩),(4,e7<|2+x2),(5,.pointer<|some ⟨b8,0,none⟩),(6,.slice s.2.2.1 s.2.2.2.2.length s.2.2.2.1),(7,e7 ((s.1:Nat):Int))]:Env)) (λs=>vc 54 (.slice s.2.2.1 s.2.2.2.2.length s.2.2.2.1) (s.2.2.2.2)::e8 b8 [e7 aa,e7 ab,e7 M] 29::e8 ai [.slice la ln lc,e7<|s.2.1] 85::I) (λs=>(s.1<=10)/\(0<=s.2.1)/\(TriE (2+x2) s.1 s.2.2.2.2)) (λs=>10 - s.1) (0,i7,none,0,[]) ⟨om,om,TriE.nil⟩ (Aa C<|Aa C<|Aa C<|Aa (Dc C<|by first|rfl|simp)<|Aa Cd Bm) (Cv (show Fit κ _ _ from Bl)<|Cn (α:=Ev) _ _) ?_
 rintro ⟨i,iq,oa,oc,o⟩ hp
 dsimp only at hp ⊢
 obtain ⟨hi,a7,an⟩:=hp
 have bo:=an.len
 refine Ap<|Af<|Gm C<|Gr (A9 C C)<|Ad<|A7 C (λba=>?_)<|λba=>?_
 ·refine Aw (Ah<|Ap<|A0<|Au<|Gm C<|Gm C<|Gm C<|Gm C<|Gr (Ek C C<|by unfold InR;omega)<|Gm C<|G.e (Aj c_ C C<|Next_ok (by repeat (first|exact AtF.head _ _|apply AtF.tail)) (A4 hl) om om) ?_)
  rintro _ _ ⟨_,_,⟨x9,bi,rfl,bp,be,rfl⟩,rfl,rfl⟩
  refine Gr (Rad C C)<|G.e (Aj c_ C C<|MkEvent_at (by repeat (first|exact AtF.head _ _|apply AtF.tail)) (λ_=>Bt hl Av) om  om om) ?_
  rintro _ _ ⟨_,_,⟨⟨ad,a0⟩,⟨⟨rfl,aj,ak⟩,ar⟩,rfl⟩,rfl,rfl⟩
  have ar:0<=a0:=ar
  dsimp only at aj
  dsimp only at ak
  refine Ge1 (Cm (α:=Ev) (cs:=[e7 (ad.kd),e7<|ad.tm,e7<|ad.u,e7<|ad.v,e7<|ad.w,e7<|ad.lb,e7<|ad.sg]) (xs:=[⟨ad.kd,ad.tm,ad.u,ad.v,ad.w,ad.lb,ad.sg⟩]) Ar ty54 C C dc dc C kr C C) λbg=>?_
  refine Ge2 (Cs (α:=Ev) (e:=54) (xs:=o) (ys:=([ad]:List Ev)) Ar ty54 C C C mm Bg olp dc C<|λ_ _=>am) λaz a3=>?_
  exact Ga C<|Bo<|Ak<|Ah<|Am (S5 6 3 4 5 7 C C C C C)<|Au<|Gm C<|Gr (Rad C C)<|Ga C<|Bo<|Ce ((i+1),(a0),(az),(a3),(o++([ad]:List Ev)))<|by dsimp only;exact ⟨om,om,(an.next aj ak om)⟩
 refine Bv<|Ao<|Ao<|Ba<|Ah<|Af<|Gm C<|Ge2 (Eff.clone (α:=Ev) (ys:=o) Ar ty54 C C C Bg olp dc C) λae ah=>?_
 refine Ga C<|Ad<|Ap<|Af<|Ga C<|Ad<|A0<|B1 (σ:=Nat×Int×(List Ev)) (λs=>([(3,.pointer<|some ⟨ai,0,none⟩),(4,e7<|2+x2),(5,.pointer<|some ⟨b8,0,none⟩),(6,.slice oa o.length oc),(8,.slice ae s.2.2.length ah),(9,e7 ((s.1:Nat):Int))]:Env)) (λs=>vc 54 (.slice ae s.2.2.length ah) (s.2.2)::vc 54 (.slice oa o.length oc) (o)::e8 b8 [e7 aa,e7 ab,e7 M] 29::e8 ai [.slice la ln lc,e7<|s.2.1] 85::I) (λs=>(s.1<=o.length)/\(s.2.2.Perm o)/\(0<=s.2.1)) (λs=>o.length - s.1) (0,iq,o) ⟨om,(List.Perm.refl _),om⟩ (Aa C<|Aa C<|Aa C<|Aa C<|Aa C<|Aa Cd Bm) Bl ?_
 rintro ⟨j,iq,mx⟩ hp
 dsimp only at hp ⊢
 obtain ⟨hj,ao,a7⟩:=hp
 have bj:=ao.length_eq
 refine Ap<|Af<|Gm C<|Gr (Rad C C)<|Gm C<|Gr (Bk Ar C)<|Gr (A9 C C)<|Ad<|A7 C (λa8=>?_)<|λa8=>?_
 ·refine Aw (Ah<|Ap<|A0<|Af<|Gm C<|G.e (Aj c_ C C<|Next_ok (by repeat (first|exact AtF.head _ _|apply AtF.tail)) (A4 hl) om om) ?_)
  rintro _ _ ⟨_,_,⟨bm,aq,rfl,bh,bf,rfl⟩,rfl,rfl⟩
  refine Gr (Bs C C)<|Ad<|Am (S7 53 3 4 5 6 8 9 C C C C C C C)<|A7 C (λbb=>?_)<|λbb=>?_
  ·refine Bq mixed (Cc (vc 54 (.slice oa o.length oc) (o)::e8 b8 [e7 aa,e7 ab,e7 M] 29::e8 ai [.slice la ln lc,e7 aq] 85::I) 18<|Dr 0 C (Ai C)<|Dr 1 C (Ai C)<|Dr 2 C (Ai C)<|Dr 3 C (Ai C)<|Dr 4 C (Rad C C)<|Dr 5 C (Ai C)<|Dr 6 C (Ai C)<|Dr 7 C (Rad C C)<|Dr 10 C (Ai C)<|Dr 11 C (Ai C)<|D.two (vc 54 (.slice ae mx.length ah) (mx)::vc 54 (.slice oa o.length oc) (o)::e8 b8 [e7 aa,e7 ab,e7 M] 29::e8 ai [.slice la ln lc,e7 aq] 85::I) 15 Bl ?_)
   refine Ey 8 C kr kr kr C kr (λ_ _ _ _ h=>h) (Bh C) C C Bl (Ax (α:=Ev) (xs:=mx) Ar ty54 C C Bg om oo) ?_
   refine Ey 9 C kr kr kr C kr (λ_ _ _ _ h=>h) (Bh C) C C Bl (B0 (α:=Ev) (xs:=mx) ty54 C Bg om oo) ?_
   refine Eu (rs:=[12]) kr C C<|Eh ?_
   refine Step2.read C (Bh C) C C (Ax (α:=Ev) (xs:=mx) Ar ty54 C C Bg om oo) Bl ?_
   refine Ey 13 C kr kr kr C kr (λ_ _ _ _ h=>h) (Bh C) C C Bl (B0 (α:=Ev) (xs:=mx) ty54 C Bg om oo) ?_
   refine Ey 14 C kr kr kr C kr (λ_ _ _ _ h=>h) (Bh C) C C Bl (Ax (α:=Ev) (xs:=mx) Ar ty54 C C Bg om oo) ?_
   refine D2.stop kr ?_
   refine Ds1 15<|Se0 C (Cw (α:=Ev) (xs:=mx) (e:=54) (new:=⟨(e_ mx<|(j:Int)+1).kd,(e_ mx<|(j:Int)+1).tm,(e_ mx<|(j:Int)+1).u,(e_ mx<|(j:Int)+1).v,(e_ mx<|(j:Int)+1).w,(e_ mx<|(j:Int)+1).lb,(e_ mx<|(j:Int)+1).sg⟩) ty54 C C C om oo am) ?_
   refine Ds1 16<|Sr C (Ax (α:=Ev) (xs:=List.set mx ((j:Int)).toNat (⟨(e_ mx<|(j:Int)+1).kd,(e_ mx<|(j:Int)+1).tm,(e_ mx<|(j:Int)+1).u,(e_ mx<|(j:Int)+1).v,(e_ mx<|(j:Int)+1).w,(e_ mx<|(j:Int)+1).lb,(e_ mx<|(j:Int)+1).sg⟩)) Ar ty54 C C Bg om oo) Bl ?_
   refine Ds1 17<|Se0 C (Cw (α:=Ev) (xs:=List.set mx ((j:Int)).toNat (⟨(e_ mx<|(j:Int)+1).kd,(e_ mx<|(j:Int)+1).tm,(e_ mx<|(j:Int)+1).u,(e_ mx<|(j:Int)+1).v,(e_ mx<|(j:Int)+1).w,(e_ mx<|(j:Int)+1).lb,(e_ mx<|(j:Int)+1).sg⟩)) (e:=54) (new:=⟨(e_ mx j).kd,(e_ mx j).tm,(e_ mx j).u,(e_ mx j).v,(e_ mx j).w,(e_ mx j).lb,(e_ mx j).sg⟩) ty54 C C C om oo am) ?_
   exact Dz<|Ak<|Ah<|Am (S6 3 4 5 6 8 9 C C C C C C)<|Au<|Gm C<|Gr (Rad C C)<|Ga C<|Bo<|Ce ((j+1),(aq),(List.set (List.set mx ((j:Int)).toNat (⟨(e_ mx<|(j:Int)+1).kd,(e_ mx<|(j:Int)+1).tm,(e_ mx<|(j:Int)+1).u,(e_ mx<|(j:Int)+1).v,(e_ mx<|(j:Int)+1).w,(e_ mx<|(j:Int)+1).lb,(e_ mx<|(j:Int)+1).sg⟩)) ((j:Int)+1).toNat (⟨(e_ mx j).kd,(e_ mx j).tm,(e_ mx j).u,(e_ mx j).v,(e_ mx j).w,(e_ mx j).lb,(e_ mx j).sg⟩))) (by dsimp only;exact ⟨om,((swap_at om).trans ao),om⟩) (hI:=by (try dsimp only);exact (by simp only [List.length_set];exact Bl))
  exact Aw<|Ak<|Ah<|Au<|Gm C<|Gr (Rad C C)<|Ga C<|Bo<|Ce ((j+1),(aq),(mx))<|by dsimp only;exact ⟨om,ao,om⟩
 refine Bv<|Ao<|Ao<|Ba<|Ah<|Af<|Gm C<|Gl3 ty29 ?_
 refine Gm C<|G.e (Aj c_ C C<|KRun_ok (T:=I) (evs:=o) (by repeat (first|exact Bz _|apply Bx|apply B5)) Bg om ap dc an.fit om<|Bj hT Av) ?_
 rintro _ _ ⟨_,_,⟨Z,Y21,rfl,aw,rfl⟩,rfl,rfl⟩
 refine Ec (J:=vc 54 (.slice ae mx.length ah) (mx)::vc 54 (.slice oa o.length oc) (o)::e8 b8 [e7 aa,e7 ab,e7 M] 29::e8 ai [.slice la ln lc,e7 iq] 85::(Y21++I)) (C5<|Di (A:=Y21) (L:=[vc 54 (.slice ae mx.length ah) mx,vc 54 (.slice oa o.length oc) o,e8 b8 [e7 aa,e7 ab,e7 M] 29,e8 ai [.slice la ln lc,e7 iq] 85]) (T:=I)) ?_
 refine Gm C<|Gr (Al C C)<|Gr (Al C C)<|Gr (Al C C)<|Ge1 (A2 ty47 C) λa6=>Ge0 (B9 (cs:=[_,_,_,_,_,_,_,_,_,_,_,_,_,_,_,_,_,_,_,_,_,_,_,_,_]) (vs:=[_,_,_,_,_,_,_,_,_,_,_,_,_,_,_,_,_,_,_,_,_,_,_,_,_]) (cs':=[_,_,_,_,_,_,_,_,_,_,_,_,_,_,_,_,_,_,_,_,_,_,_,_,_]) ty47) ?_
 refine Ga C<|Ga C<|Ad<|Am (S6 12 11 10 4 5 8 C C C C C C)<|Af<|Gm C<|Gl3 ty29 ?_
 refine Gm C<|G.e (Aj c_ C C<|KRun_ok (T:=(Y21++I)) (evs:=mx) (by repeat (first|exact Bz _|apply Bx|apply B5)) Bg om ap dc (λe he=>an.fit e<|ao.mem_iff.1 he) om<|Bj hT Av) ?_
 rintro _ _ ⟨_,_,⟨bc,Y24,rfl,av,rfl⟩,rfl,rfl⟩
 refine Ec (J:=e8 a6 [e7 aa,e7 ab,e7 M,e7 100,e7<|(EnS.run aa ab M 100 o).b.lt,e7<|(EnS.run aa ab M 100 o).b.mr,.slice Z.w.a (EnS.run aa ab M 100 o).b.ws.length Z.w.c,e7<|(2+x2),.slice Z.l.a ((EnS.run aa ab M 100 o).S).length Z.l.c,e7<|(2+x2),.slice Z.p.e1.a (edgesK<|(EnS.run aa ab M 100 o).S).length Z.p.e1.c,.slice Z.p.n1.a (coreN (2+x2)<|edgesK<|(EnS.run aa ab M 100 o).S).length Z.p.n1.c,e7<|(2+x2),.slice Z.p.e2.a (edgesK<|(EnS.run aa ab M 100 o).S).length Z.p.e2.c,.slice Z.p.n2.a (trussG (2+x2)<|edgesK<|(EnS.run aa ab M 100 o).S).length Z.p.n2.c,e7<|(2+x2),.slice Z.p.e3.a (edgesK<|(EnS.run aa ab M 100 o).S).length Z.p.e3.c,e7<|triS (2+x2) (edgesK<|(EnS.run aa ab M 100 o).S) / 3,.slice Z.p.n3.a (triL (2+x2)<|edgesK<|(EnS.run aa ab M 100 o).S).length Z.p.n3.c,e7<|(2+x2),.slice Z.p.e4.a (edgesK<|(EnS.run aa ab M 100 o).S).length Z.p.e4.c,e7<|wedgeC (2+x2)<|edgesK<|(EnS.run aa ab M 100 o).S,e7<|quadC (2+x2)<|edgesK<|(EnS.run aa ab M 100 o).S,.slice Z.p.n4.a (quadL (2+x2)<|edgesK<|(EnS.run aa ab M 100 o).S).length Z.p.n4.c,e7<|(EnS.run aa ab M 100 o).tm] 47::vc 54 (.slice ae mx.length ah) (mx)::vc 54 (.slice oa o.length oc) (o)::e8 b8 [e7 aa,e7 ab,e7 M] 29::e8 ai [.slice la ln lc,e7 iq] 85::(Y24++(Y21++I))) (C5<|Di (A:=Y24) (L:=[e8 a6 [e7 aa,e7 ab,e7 M,e7 100,e7<|(EnS.run aa ab M 100 o).b.lt,e7<|(EnS.run aa ab M 100 o).b.mr,.slice Z.w.a (EnS.run aa ab M 100 o).b.ws.length Z.w.c,e7<|(2+x2),.slice Z.l.a ((EnS.run aa ab M 100 o).S).length Z.l.c,e7<|(2+x2),.slice Z.p.e1.a (edgesK<|(EnS.run aa ab M 100 o).S).length Z.p.e1.c,.slice Z.p.n1.a (coreN (2+x2)<|edgesK<|(EnS.run aa ab M 100 o).S).length Z.p.n1.c,e7<|(2+x2),.slice Z.p.e2.a (edgesK<|(EnS.run aa ab M 100 o).S).length Z.p.e2.c,.slice Z.p.n2.a (trussG (2+x2)<|edgesK<|(EnS.run aa ab M 100 o).S).length Z.p.n2.c,e7<|(2+x2),.slice Z.p.e3.a (edgesK<|(EnS.run aa ab M 100 o).S).length Z.p.e3.c,e7<|triS (2+x2) (edgesK<|(EnS.run aa ab M 100 o).S) / 3,.slice Z.p.n3.a (triL (2+x2)<|edgesK<|(EnS.run aa ab M 100 o).S).length Z.p.n3.c,e7<|(2+x2),.slice Z.p.e4.a (edgesK<|(EnS.run aa ab M 100 o).S).length Z.p.e4.c,e7<|wedgeC (2+x2)<|edgesK<|(EnS.run aa ab M 100 o).S,e7<|quadC (2+x2)<|edgesK<|(EnS.run aa ab M 100 o).S,.slice Z.p.n4.a (quadL (2+x2)<|edgesK<|(EnS.run aa ab M 100 o).S).length Z.p.n4.c,e7<|(EnS.run aa ab M 100 o).tm] 47,vc 54 (.slice ae mx.length ah) mx,vc 54 (.slice oa o.length oc) o,e8 b8 [e7 aa,e7 ab,e7 M] 29,e8 ai [.slice la ln lc,e7 iq] 85]) (T:=(Y21++I))) ?_
 refine Gm C<|Gr (Al C C)<|Gr (Al C C)<|Gr (Al C C)<|Ge1 (A2 ty47 C) λbq=>Ge0 (B9 (cs:=[_,_,_,_,_,_,_,_,_,_,_,_,_,_,_,_,_,_,_,_,_,_,_,_,_]) (vs:=[_,_,_,_,_,_,_,_,_,_,_,_,_,_,_,_,_,_,_,_,_,_,_,_,_]) (cs':=[_,_,_,_,_,_,_,_,_,_,_,_,_,_,_,_,_,_,_,_,_,_,_,_,_]) ty47) ?_
 refine Ga C<|Ga C<|Ad<|Am (S6 15 14 13 12 11 10 C C C C C C)<|Af<|Gm C ?_
 have ax:=order_run (kd:=aa) (wd:=ab) (mo:=M) ao.symm (λe he=>by have h9:=an.tm e he;omega) an.nod
 refine Gr (Bs C C)<|Gm C<|Br (d:=88) C (λa5=>?_)<|λa5=>?_
 ·refine e9 (Ai C) (e9 (Bs C C)<|Gr (A6 C C)<|Gm C<|Br (d:=92) C (λa4=>?_)<|λa4=>?_)
  ·refine e9 (Ai C) (e9 (Bs C C)<|Gr (A6 C C)<|Gm C<|Br (d:=96) C (λay=>?_)<|λay=>?_)
   ·refine e9 (Ai C) (e9 (Bs C C)<|Gr (A6 C C)<|Gm C<|Br (d:=100) C (λau=>?_)<|λau=>?_)
    ·refine e9 (A8 (vs:=[_,_,_,_,_,_,_,_,_,_,_,_,_,_,_,_,_,_,_,_,_,_,_,_,_]) ty47) ?_
     refine e9 (A8 (vs:=[_,_,_,_,_,_,_,_,_,_,_,_,_,_,_,_,_,_,_,_,_,_,_,_,_]) ty47) ?_
     refine Dy (Cq C C C) (Aj c_ C C<|SameK_ok (k:=(EnS.run aa ab M 100 o)) (k2:=(EnS.run aa ab M 100 mx)) ax.1 (KpF.fit aw<|Ci (κ:=κ)<|by repeat (first|exact Bz _|apply Bx|apply B5))<|KpF.fit av<|Ci (κ:=κ)<|by repeat (first|exact Bz _|apply Bx|apply B5)) ?_
     rintro _ _ ⟨_,_,⟨rfl,rfl⟩,rfl,rfl⟩
     refine Gr (A6 C C)<|Gm C<|Dy (Cq C C C) (Aj c_ C C<|Awake41_ok<|Bj hT Av) ?_
     rintro _ _ ⟨_,_,⟨rfl,rfl⟩,rfl,rfl⟩
     exact Gr (A6 C C)<|Ga C<|Ad<|Am (S1 2 C)<|Az<|A1 C C I (by first|exact Av|exact FitW) ⟨rfl,rfl⟩
    exact absurd (show ((BfS.lates 100 ⟨-1, -1,[]⟩ mx:Nat):Int)=0 by rw [ax.2.2];rfl) au
   exact absurd (show ((BfS.lates 100 ⟨-1, -1,[]⟩ o:Nat):Int)=0 by rw [ax.2.1];rfl) ay
  exact absurd rfl a4
 exact absurd rfl a5
end Go.Sl
namespace Go.Sl
open Go.ChangeShapes Go.WideShapes Go.ChangeAt Go.RowKit Go.Deep
variable{v:Value}{e:TypeId}{a:Addr}
section
variable {κ:Ctx}{w w':World}{I:List Item}
theorem old_cell(hs:Sep κ w' I)(hm:old w.heap.size w∈I){b o:Nat}{u:Value}(Z:w.cell? ⟨b,o,none⟩=some u):w'.cell? ⟨b,o,none⟩=some u:=by
 have M:∀k,k<w.heap.size->w'.heap[k]? = w.heap[k]? :=(hs.ok _ hm).1
 have hb:b<w.heap.size:=by
  refine Nat.not_le.1 λh=>?_
  simp [World.cell?,Array.getElem?_eq_none h] at Z
 have:=M b hb
 simp only [World.cell?,this] at Z ⊢
 exact Z
def SlW{α:Type}[Enc α](w:World)(v:Value)(xs:List α):Prop:=slOk w (Enc.sz α) v xs.length (cells xs)
theorem SlW.sl{α:Type}[Enc α]{xs:List α}(h:SlW w v xs)(Z:old w.heap.size w∈I):Sl κ I v xs:=λw' hs=>by
 obtain ⟨a,cap,hv,h1,h2,h3,h4⟩:=h
 refine ⟨a,cap,hv,h1,h2,h3,λhc=>?_⟩
 obtain ⟨b,off,ha,hr⟩:=h4 hc
 exact ⟨b,off,ha,λj u M=>old_cell hs Z<|hr j u M⟩
end
section
variable {P:Program}{w:World}{r:Reach}{b0:Nat}{t:TypeId}{H:Type}{enc:TypeId×Value->H}{base:Nat}{spare:Nat->Bool}{held:Bool}
theorem spot_none{len cap:Nat}(Z:P.underlying t=some (.slice e))(h:Cell.okWide P w r b0 t (.slice (some a) len cap)):a.spot=none:=by
 simp only [Cell.okWide,Cell.ok,Z] at h
 exact h.2.2.2.1
theorem InR_of{n:Int}(h:(Lit.int .i64 n).wf=true):InR n:=by
 simp only [Lit.wf,Bool.and_eq_true,decide_eq_true_eq] at h
 exact h
def Light(P:Program)(t:TypeId)(d:DataW H):Prop:=∀n∈d.weights P t,n<=reachBytes
theorem light_arg{Z:List TypeId}{ds:List (DataW H)}(h:(DataW.weightsEach P Z ds).all (· <= reachBytes)=true){j:Nat}{d:DataW H}(M:Z[j]? = some t)(hd:ds[j]? = some d):Light P t d:=λn hn=>by
 have:=List.all_eq_true.1 h _ (DataW.weights_mem_each M hd n hn)
 simpa using this
theorem light_slice{es sp:List (DataW H)}(Z:P.underlying t=some (.slice e))(h:Light P t (.slice es sp)):es.length*P.bytesOf e<=140737488351232:=by
 have M:=h ((es.length+sp.length)*P.bytesOf e) (by simp [DataW.weights,Z])
 have h2:es.length*P.bytesOf e<=(es.length+sp.length)*P.bytesOf e:=Nat.mul_le_mul_right _ (by omega)
 simp only [reachBytes] at M
 omega
theorem addr_eta(h:a.spot=none):a=⟨a.block,a.off,none⟩:=by cases a;simp_all
theorem in_ints{fuel:Nat}{x:DataW H×List MemPlace}(ht:P.underlying t=some (.slice e))(he:P.underlying e=some (.int .i64))(hc:P.cellsOf e=1)
  (hv:Cell.okWide P w r b0 t v) (h:DataW.trod enc P w base spare held fuel t [v]=some x) (hw:Light P t x.1):∃(a:Option Addr) (c:Nat) (xs:List Int),v = .slice a xs.length c/\SlW w (.slice a xs.length c) xs/\(∀n∈xs,InR n)/\xs.length*P.bytesOf e<=140737488351232:=by
 rcases open_ints ht he hc h with ⟨aa,_⟩|⟨a,l,c,zs,aa,_,hl,hm,hz,hx,M,ad⟩
 ·obtain rfl:v = .slice none 0 0:=by simpa using aa
  exact ⟨none,0,[],rfl,⟨none,0,rfl,by simp [cells],Nat.le_refl _,by simp,λh=>by omega⟩,by simp,by simp⟩
 obtain rfl:v = .slice (some a) l c:=by simpa using aa
 have ab:=spot_none ht hv
 have ae:l<=zs.length:=by rw [hz];split<;>omega
 have Z:(zs.take l).length=l:=by rw [List.length_take];omega
 refine ⟨some a,c,zs.take l,by rw [Z],⟨some a,c,rfl,cells_length _,by rw [Z];exact hl,hm,λah=>⟨a.block,a.off,by rw [←addr_eta ab],λj u hj=>?_⟩⟩,λn hn=>InR_of (ad n (List.mem_of_mem_take hn)),by
  rw [hx] at hw
  have:=light_slice ht hw
  simpa [lits] using this⟩
 have ai:j<l:=by
  have:=(List.getElem?_eq_some_iff.1 hj).1
  rw [cells_length,Z] at this
  have e1:Enc.sz Int=1:=rfl
  rw [e1] at this;omega
 have h1:=cells_get (zs.take l) j 0 (by omega) (by decide)
 have e1:j*Enc.sz Int+0=j:=by show j*1+0=j;omega
 rw [e1] at h1
 rw [h1] at hj
 have h2:=M j (by omega)
 rw [addr_eta ab,addr_add] at h2
 have h3:u=e7 (zs.getD j 0):=by
  have h4:some (e7<|(zs.take l)[j]'(by omega))=some u:=hj
  simp only [Option.some.injEq] at h4
  rw [←h4]
  simp [List.getD_eq_getElem?_getD,List.getElem?_eq_getElem (show j<zs.length by omega)]
 rw [h3];exact h2
theorem arg_cell{d:DataW H}{ps:List MemPlace}(Z:P.underlying t=some (.slice e))(hv:Value.okWide P w r b0 t v)(h:DataW.Trod enc P w base spare held t v d ps):Cell.okWide P w r b0 t v/\∃fuel,DataW.trod enc P w base spare held fuel t [v]=some (d,ps):=by
 obtain ⟨a,len,cap,rfl⟩:=okWide_slice Z hv
 simp only [Value.okWide,Z] at hv
 obtain ⟨fuel,M⟩:=h
 exact ⟨hv,fuel,by simpa [Value.cells] using M⟩
theorem joined_mk{P:Program}{f:FuncId}{Z:Func}{s:ChangeSpec}{c:OpenClaim}(h1:(c.wf (OpenSpec.ofChange s))=true)(h2:(laidOutB P)=true)(h3:(mapsRowed P)=true)(h4:(Z.params.all (P.readableRec ·))=true)(h5:(namedTie P c.named s.vars)=true)(h6:((c.stops==[]))=true)(h7:((P.stops==[]))=true)(h8:((c.knobs==[]))=true)(h9:((P.stopKnobs==[]))=true)(aj:((c.inPlace==P.inPlace f))=true)(ah:((c.unfollowed==P.unfollowed f))=true)(au:((c.recurses==P.recurses f))=true)(ap:((c.named==P.varsNamed f))=true)(ab:((c.maps==(Z.params.toList++s.plain.varTypes P).any (P.mapsRec ·)))=true)(ad:((c.ifaces==(Z.params.toList++s.plain.varTypes P).any (P.ifacesRec ·)))=true)(aw:((c.mapsOut==P.mapsAmong Z.resultTypes.toList))=true)(az:((c.loops==(Z.params.toList++s.plain.varTypes P).any (P.loopsFrom ·)))=true)(aa:((c.wideKeys==(Z.params.toList++s.plain.varTypes P++Z.resultTypes.toList).any (P.wideKeysFrom ·)))=true)(aq:(s.vars.all (P.varReadable ·))=true)(ar:(Z.resultTypes.all (λt=>P.readableRec t&&decide (t<P.types.size)))=true)(ai:((c.ifacesOut==Z.resultTypes.toList.any (P.ifacesRec ·)))=true)(ae:((c.loopsOut==Z.resultTypes.toList.any (P.loopsFrom ·)))=true)(ak:((c.plainKeys==P.plainKeys))=true)(a1:(c.shortTexts.isNone)=true)(av:(P.stopsHeard)=true)(ao:(P.mayEnter)=true)(M:((c.lifted==P.liftsFinal))=true)(a3:((P.make==some c.make))=true)(ax:((c.kinds==(if c.domain.isEmpty then [] else Z.params.toList.map λt=>match P.underlying t with |some (.int k)=>some k|_=>none)))=true)(an:((c.pinned==c.pinnedBy))=true)(ay:((c.veiled==(Z.params.toList++s.plain.varTypes P++Z.resultTypes.toList).any (P.veiledRec ·)))=true)(a0:(c.veiledFits P Z.params.toList (Z.params.toList++s.plain.varTypes P++Z.resultTypes.toList))=true):joinedFacts P f Z s c=true:=by
 unfold joinedFacts
 exact (Bool.and_eq_true_iff.2 ⟨(Bool.and_eq_true_iff.2 ⟨(Bool.and_eq_true_iff.2 ⟨(Bool.and_eq_true_iff.2 ⟨(Bool.and_eq_true_iff.2 ⟨(Bool.and_eq_true_iff.2 ⟨(Bool.and_eq_true_iff.2 ⟨(Bool.and_eq_true_iff.2 ⟨(Bool.and_eq_true_iff.2 ⟨(Bool.and_eq_true_iff.2 ⟨(Bool.and_eq_true_iff.2 ⟨(Bool.and_eq_true_iff.2 ⟨(Bool.and_eq_true_iff.2 ⟨(Bool.and_eq_true_iff.2 ⟨(Bool.and_eq_true_iff.2 ⟨(Bool.and_eq_true_iff.2 ⟨(Bool.and_eq_true_iff.2 ⟨(Bool.and_eq_true_iff.2 ⟨(Bool.and_eq_true_iff.2 ⟨(Bool.and_eq_true_iff.2 ⟨(Bool.and_eq_true_iff.2 ⟨(Bool.and_eq_true_iff.2 ⟨(Bool.and_eq_true_iff.2 ⟨(Bool.and_eq_true_iff.2 ⟨(Bool.and_eq_true_iff.2 ⟨(Bool.and_eq_true_iff.2 ⟨(Bool.and_eq_true_iff.2 ⟨(Bool.and_eq_true_iff.2 ⟨(Bool.and_eq_true_iff.2 ⟨(Bool.and_eq_true_iff.2 ⟨(Bool.and_eq_true_iff.2 ⟨h1,h2⟩),h3⟩),h4⟩),h5⟩),h6⟩),h7⟩),h8⟩),h9⟩),aj⟩),ah⟩),au⟩),ap⟩),ab⟩),ad⟩),aw⟩),az⟩),aa⟩),aq⟩),ar⟩),ai⟩),ae⟩),ak⟩),a1⟩),av⟩),ao⟩),M⟩),a3⟩),ax⟩),an⟩),ay⟩),a0⟩)
theorem calls_below{f:FuncId}{Z:List Value}(h:eu P ⟨w.os,w.tape,w.output,w.drawn⟩ f Z [old w.heap.size w] λr J=>r = .bool true/\[old w.heap.size w]=J) :
  Calls P f Z.toArray w λe w'=>e = .returned (.bool true)/\Below w.heap.size w w':=
 (h w<|Sep.begin w).mono λe w' ⟨v,J,he,⟨hv,M⟩,hs⟩=>by
  subst hv M
  exact ⟨he,hs.below List.mem_cons_self⟩
end
end Go.Sl
