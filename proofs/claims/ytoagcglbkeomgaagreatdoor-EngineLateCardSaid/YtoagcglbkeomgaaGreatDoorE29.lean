/- A part of the proofs of statements of this seat: contracts of functions, and the plain laws that they lean on. No conditions. -/
import Derived.Test.YtoagcglbkeomgaaGreatDoorE28
set_option linter.unusedVariables false
set_option linter.unusedSimpArgs false
set_option linter.unusedSectionVars false
open Go.Proofs.Tryz (prog)
set_option maxHeartbeats 2000000
namespace Go.Sl
open Go.Proofs
set_option maxRecDepth 4000
variable{bd c nd:Int}{ua ub va vb:Value}{es:List Pt}{ns:List Int}
variable {κ:Ctx}{I:List Item}
attribute [local irreducible] W G V D A j7 Eff
structure Wn3 where
 k:Int
 w:Int
 m:Int
deriving DecidableEq,Inhabited
instance:Enc Wn3:=⟨λa=>[e7 a.k,e7 a.w,e7 a.m],3,by omega,λ_=>rfl,λa x h=>by
 simp only [Fy,Kc,Mq] at h
 rcases h with rfl|rfl|rfl<;>rfl⟩
theorem gg3:EqT prog 29 Wn3:=EqT.flat (λp:Wn3=>[p.k,p.w,p.m]) (λ_=>rfl) (λx y h=>by cases x;cases y;simpa using h) (n:=3) (λ_=>rfl) kr kr kr kr kr
theorem fc6{lt mr:Int}{xs:List Ev}(hl:Sl κ I va xs)(hm:Sl κ I vb xs):eu prog κ 74 [.agg #[e7 bd,e7 lt,e7 mr,va],.agg #[e7 bd,e7 lt,e7 mr,vb]] I (λr J=>r = .bool true/\I=J):=by
 refine Ce2 Tryz.func74 C C ?_
 refine Am<|Ge1 (Au (cs:=[_,_,_,_]) C C C) λb1=>Ge1 (Au (cs:=[_,_,_,_]) C C C) λb2=>Z ?_
 refine A1 (d:=10) C (λab=>Z ?_)<|λab=>?_
 ·refine A1 (d:=17) C (λaa=>Z ?_) (λaa=>?_)
  ·refine A1 (d:=24) C (λM=>Z ?_) (λM=>?_)
   ·refine Dj (Cf C C C) (Ac c_ C C<|fc8 (A4 hl)<|A4 hm) ?_
    rintro _ _ ⟨_,_,⟨rfl,rfl⟩,rfl,rfl⟩
    refine Z ?_
    exact Ak C C I Ah ⟨by first|rfl|(rw [As rfl])|(rw [As ⟨rfl,rfl⟩])|(simp;done),rfl⟩
   exact absurd rfl M
  exact absurd rfl aa
 exact absurd rfl ab
theorem do8(hl:Sl κ I va es)(hm:Sl κ I ua ns)(ab:Sl κ I vb es)(aa:Sl κ I ub ns):eu prog κ 75 [.agg #[e7 nd,va,ua],.agg #[e7 nd,vb,ub]] I (λr J=>r = .bool true/\I=J):=by
 refine Ce2 Tryz.func75 C C ?_
 refine Am<|Ge1 (Au (cs:=[_,_,_]) C C C) λb1=>Ge1 (Au (cs:=[_,_,_]) C C C) λb2=>Z ?_
 refine Gc0 (Ac c_ C C<|at3 (A4 hl)<|A4 ab) ?_
 refine Gm C<|A1 (d:=10) C (λM=>Z ?_)<|λM=>?_
 ·refine Dj (Cf C C C) (Ac c_ C C<|do4 (A4 hm)<|A4 aa) ?_
  rintro _ _ ⟨_,_,⟨rfl,rfl⟩,rfl,rfl⟩
  refine Z ?_
  exact Ak C C I Ah ⟨by first|rfl|(rw [As rfl])|(rw [As ⟨rfl,rfl⟩])|(simp;done),rfl⟩
 exact absurd ⟨rfl,rfl⟩ M
theorem do7(hl:Sl κ I va es)(hm:Sl κ I ua ns)(ab:Sl κ I vb es)(aa:Sl κ I ub ns):eu prog κ 76 [.agg #[e7 nd,va,ua],.agg #[e7 nd,vb,ub]] I (λr J=>r = .bool true/\I=J):=by
 refine Ce2 Tryz.func76 C C ?_
 refine Am<|Ge1 (Au (cs:=[_,_,_]) C C C) λb1=>Ge1 (Au (cs:=[_,_,_]) C C C) λb2=>Z ?_
 refine Gc0 (Ac c_ C C<|at3 (A4 hl)<|A4 ab) ?_
 refine Gm C<|A1 (d:=10) C (λM=>Z ?_)<|λM=>?_
 ·refine Dj (Cf C C C) (Ac c_ C C<|do4 (A4 hm)<|A4 aa) ?_
  rintro _ _ ⟨_,_,⟨rfl,rfl⟩,rfl,rfl⟩
  refine Z ?_
  exact Ak C C I Ah ⟨by first|rfl|(rw [As rfl])|(rw [As ⟨rfl,rfl⟩])|(simp;done),rfl⟩
 exact absurd ⟨rfl,rfl⟩ M
theorem do6(hl:Sl κ I va es)(hm:Sl κ I ua ns)(ah:Sl κ I vb es)(aj:Sl κ I ub ns):eu prog κ 77 [.agg #[e7 nd,va,e7 c,ua],.agg #[e7 nd,vb,e7 c,ub]] I (λr J=>r = .bool true/\I=J):=by
 refine Bw hm.le λai=>?_
 refine Ce2 Tryz.func77 C C ?_
 refine Am<|Ge1 (Au (cs:=[_,_,_,_]) C C C) λb1=>Ge1 (Au (cs:=[_,_,_,_]) C C C) λb2=>Z ?_
 refine Gc0 (Ac c_ C C<|at3 (A4 hl)<|A4 ah)<|Z ?_
 refine A1 (d:=12) C (λM=>?_)<|λM=>Z ?_
 ·exact absurd ⟨rfl,rfl⟩ M
 refine A1 (d:=19) C (λad=>?_)<|λad=>Z ?_
 ·exact absurd rfl ad
 refine Al C (λaa=>?_)<|λaa=>Z ?_
 ·exact absurd rfl aa
 refine Dh (σ:=Nat) (λs=>[(5,e7 ((s:Nat):Int))]) (λ_=>[]) (λs=>(s<=ns.length)) (λs=>ns.length - s) 0 (show ((0:Nat)<=ns.length) from om) ?_
 rintro k hp
 have hk:=hp
 refine Z ?_
 refine Al C (λae=>Z ?_)<|λae=>Z ?_
 ·refine A9 mixed (Ed 11<|Z ?_)
  refine Al C (λab=>?_)<|λab=>Z ?_
  ·exact absurd rfl ab
  exact Bt ((k+1)) om
 exact Ak C C I Ah ⟨by first|rfl|(rw [As rfl])|(rw [As ⟨rfl,rfl⟩])|(simp;done),rfl⟩
theorem do5{w:Int}(hl:Sl κ I va es)(hm:Sl κ I ua ns)(ai:Sl κ I vb es)(ak:Sl κ I ub ns):eu prog κ 78 [.agg #[e7 nd,va,e7 w,e7 c,ua],.agg #[e7 nd,vb,e7 w,e7 c,ub]] I (λr J=>r = .bool true/\I=J):=by
 refine Bw hm.le λaj=>?_
 refine Ce2 Tryz.func78 C C ?_
 refine Am<|Ge1 (Au (cs:=[_,_,_,_,_]) C C C) λb1=>Ge1 (Au (cs:=[_,_,_,_,_]) C C C) λb2=>Z ?_
 refine Gc0 (Ac c_ C C<|at3 (A4 hl)<|A4 ai)<|Z ?_
 refine A1 (d:=12) C (λaa=>?_)<|λaa=>Z ?_
 ·exact absurd ⟨rfl,rfl⟩ aa
 refine A1 (d:=19) C (λad=>?_)<|λad=>Z ?_
 ·exact absurd rfl ad
 refine A1 (d:=26) C (λae=>?_)<|λae=>Z ?_
 ·exact absurd rfl ae
 refine Al C (λM=>?_)<|λM=>Z ?_
 ·exact absurd rfl M
 refine Dh (σ:=Nat) (λs=>[(5,e7 ((s:Nat):Int))]) (λ_=>[]) (λs=>(s<=ns.length)) (λs=>ns.length - s) 0 (show ((0:Nat)<=ns.length) from om) ?_
 rintro k hp
 have hk:=hp
 refine Z ?_
 refine Al C (λah=>Z ?_)<|λah=>Z ?_
 ·refine A9 mixed (Ed 11<|Z ?_)
  refine Al C (λab=>?_)<|λab=>Z ?_
  ·exact absurd rfl ab
  exact Bt ((k+1)) om
 exact Ak C C I Ah ⟨by first|rfl|(rw [As rfl])|(rw [As ⟨rfl,rfl⟩])|(simp;done),rfl⟩
theorem cx3{kd wd mo:Int}{k:EnS}{v v2:KpV}(hF:KpF κ I nd k v)(M:KpF κ I nd k v2):eu prog κ 33 [.agg (kx kd wd mo bd nd k v).toArray,.agg (kx kd wd mo bd nd k v2).toArray] I (λr J=>r = .bool true/\I=J):=by
 refine Ce2 Tryz.func33 C C ?_
 refine Am<|Ge1 (Au (cs:=[_,_,_,_,_,_,_,_,_,_,_,_,_,_,_,_,_,_,_,_,_,_,_,_,_]) C C C) λb1=>Ge1 (Au (cs:=[_,_,_,_,_,_,_,_,_,_,_,_,_,_,_,_,_,_,_,_,_,_,_,_,_]) C C C) λb2=>Z ?_
 refine Gr (j7.ft0 (α:=Wn3) (a:=(⟨kd,wd,mo⟩:Wn3)) (b:=(⟨kd,wd,mo⟩:Wn3)) gg3 C C)<|Gm C<|A1 (d:=10) C (λab=>Z ?_)<|λab=>?_
 ·refine Dj (Cf C C C) (Ac c_ C C<|fc6 (Bd hF.w<|B3 (κ:=κ)<|by repeat (first|exact hH|exact Bh _|apply Bg|apply B1|apply Bo))<|Bd M.w<|B3 (κ:=κ)<|by repeat (first|exact hH|exact Bh _|apply Bg|apply B1|apply Bo)) ?_
  rintro _ _ ⟨_,_,⟨rfl,rfl⟩,rfl,rfl⟩
  refine Z ?_
  refine Dj (Cf C C C) (Ac c_ C C<|fc7 (Bd hF.l<|B3 (κ:=κ)<|by repeat (first|exact hH|exact Bh _|apply Bg|apply B1|apply Bo))<|Bd M.l<|B3 (κ:=κ)<|by repeat (first|exact hH|exact Bh _|apply Bg|apply B1|apply Bo)) ?_
  rintro _ _ ⟨_,_,⟨rfl,rfl⟩,rfl,rfl⟩
  refine Z ?_
  refine A1 (d:=24) C (λaa=>Z ?_)<|λaa=>?_
  ·refine Dj (Cf C C C) (Ac c_ C C<|do8 (Bd hF.p.e1<|B3 (κ:=κ)<|by repeat (first|exact hH|exact Bh _|apply Bg|apply B1|apply Bo)) (Bd hF.p.n1<|B3 (κ:=κ)<|by repeat (first|exact hH|exact Bh _|apply Bg|apply B1|apply Bo)) (Bd M.p.e1<|B3 (κ:=κ)<|by repeat (first|exact hH|exact Bh _|apply Bg|apply B1|apply Bo))<|Bd M.p.n1<|B3 (κ:=κ)<|by repeat (first|exact hH|exact Bh _|apply Bg|apply B1|apply Bo)) ?_
   rintro _ _ ⟨_,_,⟨rfl,rfl⟩,rfl,rfl⟩
   refine Z ?_
   refine Dj (Cf C C C) (Ac c_ C C<|do7 (Bd hF.p.e2<|B3 (κ:=κ)<|by repeat (first|exact hH|exact Bh _|apply Bg|apply B1|apply Bo)) (Bd hF.p.n2<|B3 (κ:=κ)<|by repeat (first|exact hH|exact Bh _|apply Bg|apply B1|apply Bo)) (Bd M.p.e2<|B3 (κ:=κ)<|by repeat (first|exact hH|exact Bh _|apply Bg|apply B1|apply Bo))<|Bd M.p.n2<|B3 (κ:=κ)<|by repeat (first|exact hH|exact Bh _|apply Bg|apply B1|apply Bo)) ?_
   rintro _ _ ⟨_,_,⟨rfl,rfl⟩,rfl,rfl⟩
   refine Z ?_
   refine Dj (Cf C C C) (Ac c_ C C<|do6 (Bd hF.p.e3<|B3 (κ:=κ)<|by repeat (first|exact hH|exact Bh _|apply Bg|apply B1|apply Bo)) (Bd hF.p.n3<|B3 (κ:=κ)<|by repeat (first|exact hH|exact Bh _|apply Bg|apply B1|apply Bo)) (Bd M.p.e3<|B3 (κ:=κ)<|by repeat (first|exact hH|exact Bh _|apply Bg|apply B1|apply Bo))<|Bd M.p.n3<|B3 (κ:=κ)<|by repeat (first|exact hH|exact Bh _|apply Bg|apply B1|apply Bo)) ?_
   rintro _ _ ⟨_,_,⟨rfl,rfl⟩,rfl,rfl⟩
   refine Z ?_
   refine Dj (Cf C C C) (Ac c_ C C<|do5 (Bd hF.p.e4<|B3 (κ:=κ)<|by repeat (first|exact hH|exact Bh _|apply Bg|apply B1|apply Bo)) (Bd hF.p.n4<|B3 (κ:=κ)<|by repeat (first|exact hH|exact Bh _|apply Bg|apply B1|apply Bo)) (Bd M.p.e4<|B3 (κ:=κ)<|by repeat (first|exact hH|exact Bh _|apply Bg|apply B1|apply Bo))<|Bd M.p.n4<|B3 (κ:=κ)<|by repeat (first|exact hH|exact Bh _|apply Bg|apply B1|apply Bo)) ?_
   rintro _ _ ⟨_,_,⟨rfl,rfl⟩,rfl,rfl⟩
   refine Z ?_
   exact Ak C C I Ah ⟨by first|rfl|(rw [As rfl])|(rw [As ⟨rfl,rfl⟩])|(simp;done),rfl⟩
  exact absurd ⟨rfl,rfl⟩ aa
 exact absurd rfl ab
abbrev ah2:List Ev:=[⟨1,1,0,1,1,0,1⟩,⟨1,2,1,2,1,0,1⟩,⟨1,3,0,2,1,0,1⟩]
theorem by5:∀e∈ah2,J1 3 e:=λe M=>cg0.1 (by
 simp only [Fy,Kc,Mq] at M
 rcases M with rfl|rfl|rfl<;>decide)
theorem by4:gd8 0 ah2=ah2:=by decide+kernel
theorem cg1:BfS.an9 0 ⟨-1, -1,[]⟩ ah2=0:=by decide+kernel
theorem dj8:(EnS.run 1 0 0 0 ah2).S=[⟨0,1,1,0,1,1⟩,⟨0,2,1,0,1,3⟩,⟨1,2,1,0,1,2⟩]:=by
 rw [run_eq,by4];decide+kernel
theorem gd2(T:Int)(S:List Lk)(o:List Ev)(e:Ev)(M:e.tm=T):q7 2 2 0 (S,o) e=(ep (bi0 2 0 T S o).1 e,(bi0 2 0 T S o).2++[e]):=by rw [←M];rfl
theorem by6:(EnS.run 2 2 0 0 ah2).S=[⟨0,2,1,0,1,3⟩,⟨1,2,1,0,1,2⟩]:=by
 have M:q7 2 2 0 ([],[]) ⟨1,1,0,1,1,0,1⟩=([⟨0,1,1,0,1,1⟩],[⟨1,1,0,1,1,0,1⟩]):=by
  rw [gd2 1 _ _ _ rfl,Q3<|by decide+kernel];decide+kernel
 have a2:q7 2 2 0 ([⟨0,1,1,0,1,1⟩],[⟨1,1,0,1,1,0,1⟩]) ⟨1,2,1,2,1,0,1⟩=([⟨0,1,1,0,1,1⟩,⟨1,2,1,0,1,2⟩],[⟨1,1,0,1,1,0,1⟩,⟨1,2,1,2,1,0,1⟩]):=by
  rw [gd2 2 _ _ _ rfl,Q3<|by decide+kernel];decide+kernel
 have s3:List.filter (inW 2 2 0 (ab4 ([⟨0,1,1,0,1,1⟩,⟨1,2,1,0,1,2⟩]:List Lk)+2) [⟨0,1,1,0,1,1⟩,⟨1,2,1,0,1,2⟩]) ([⟨0,1,1,0,1,1⟩,⟨1,2,1,0,1,2⟩]:List Lk)=[⟨1,2,1,0,1,2⟩]:=by decide+kernel
 have a3:(q7 2 2 0 ([⟨0,1,1,0,1,1⟩,⟨1,2,1,0,1,2⟩],[⟨1,1,0,1,1,0,1⟩,⟨1,2,1,2,1,0,1⟩]) ⟨1,3,0,2,1,0,1⟩).1=[⟨0,2,1,0,1,3⟩,⟨1,2,1,0,1,2⟩]:=by
  rw [gd2 3 _ _ _ rfl,ae3<|by decide+kernel,s3,Q3<|by decide+kernel];decide+kernel
 rw [run_eq,by4]
 show (q7 2 2 0 (q7 2 2 0 (q7 2 2 0 ([],[]) ⟨1,1,0,1,1,0,1⟩) ⟨1,2,1,2,1,0,1⟩) ⟨1,3,0,2,1,0,1⟩).1=_
 rw [M,a2,a3]
theorem ax4{κ:Ctx}{I:List Item}(hT:F4 κ I 0 p5):eu prog κ 11 [] I (λr J=>r = .bool true/\I=J):=by
 refine Ce0 Tryz.func11 C C<|Z ?_
 refine Ge1 (B0 (α:=Ev) (cs:=[e7 1,e7 1,e7 0,e7 1,e7 1,e7 0,e7 1,e7 1,e7 2,e7 1,e7 2,e7 1,e7 0,e7 1,e7 1,e7 3,e7 0,e7 2,e7 1,e7 0,e7 1]) (xs:=[⟨1,1,0,1,1,0,1⟩,⟨1,2,1,2,1,0,1⟩,⟨1,3,0,2,1,0,1⟩]) Ad z6 C C dc dc C kr C C) λaa=>Z ?_
 refine G.e (Ac c_ C C<|dq6 (T:=I) (evs:=ah2) (by repeat (first|exact Bh _|apply Bg|apply Bo)) A5 dc dc dc by5 dc<|A6 hT Ah) ?_
 rintro _ _ ⟨_,_,⟨M,Y3,rfl,an,rfl⟩,rfl,rfl⟩
 refine Ds (J:=vc 54 (.slice aa 3 3) (ah2)::(Y3++I)) (Cj<|C0 (A:=Y3) (L:=[vc 54 (.slice aa 3 3) ah2]) (T:=I))<|Z ?_
 refine Ge1 (Aj H3 C) λb4=>Ge0 (Eff.sq H3)<|Z ?_
 refine G.e (Ac c_ C C<|dq6 (T:=(Y3++I)) (evs:=ah2) (by repeat (first|exact Bh _|apply Bg|apply Bo)) A5 dc dc dc by5 dc<|A6 hT Ah) ?_
 rintro _ _ ⟨_,_,⟨ao,Y6,rfl,ak,rfl⟩,rfl,rfl⟩
 refine Ds (J:=e8 b4 (kx 2 2 0 0 3 ((EnS.run 2 2 0 0 ah2)) M) 47::vc 54 (.slice aa 3 3) (ah2)::(Y6++(Y3++I))) (Cj<|C0 (A:=Y6) (L:=[e8 b4 (kx 2 2 0 0 3 ((EnS.run 2 2 0 0 ah2)) M) 47,vc 54 (.slice aa 3 3) ah2]) (T:=(Y3++I)))<|Z ?_
 refine Ge1 (Aj H3 C) λb7=>Ge0 (Eff.sq H3)<|Z ?_
 refine A1 (d:=28) C (λaj=>Z ?_)<|λaj=>?_
 ·refine A1 (d:=32) C (λai=>Z ?_) (λai=>?_)
  ·refine A1 (d:=39) C (λad=>Z ?_) (λad=>?_)
   ·refine A1 (d:=45) C (λab=>Z ?_) (λab=>?_)
    ·refine A1 (d:=49) C (λah=>Z ?_) (λah=>?_)
     ·refine A1 (d:=55) C (λae=>Z ?_) (λae=>?_)
      ·refine Dj (Cf C C C) (B0 (α:=Int) (cs:=[_,_,_]) (xs:=[2,2,2]) Ab ef C C dc dc C C C C) ?_
       rintro _ _ ⟨ap,rfl,rfl⟩
       refine Dj (Cf C C C) (Ac c_ C C<|fj3 (KpF.fit ak<|B3 (κ:=κ)<|by repeat (first|exact Bh _|apply Bg|apply Bo)).p.n1 A5) ?_
       rintro _ _ ⟨_,_,⟨rfl,rfl⟩,rfl,rfl⟩
       refine Z ?_
       exact Ak C C I (by first|exact Ah|exact X6) ⟨rfl,rfl⟩
      exact absurd (show V5 3 (j8 (EnS.run 1 0 0 0 ah2).S) / 3=1 by rw [dj8];decide+kernel) ae
     exact absurd rfl ah
    exact absurd (show V5 3 (j8 (EnS.run 2 2 0 0 ah2).S) / 3=0 by rw [by6];decide+kernel) ab
   exact absurd (show (((EnS.run 2 2 0 0 ah2).S.length:Nat):Int)=2 by rw [by6];rfl) ad
  exact absurd (show ((BfS.an9 0 ⟨-1, -1,[]⟩ ah2:Nat):Int)=0 by rw [cg1];rfl) ai
 exact absurd rfl aj
end Go.Sl
namespace Go.Sl
open Go.Proofs
set_option maxRecDepth 4000
end Go.Sl
namespace Go.Sl
open Go.Proofs
set_option maxRecDepth 4000
variable{i most n:Int}{b:Nat}{lv:Value}{ls:List Int}
variable {κ:Ctx}{I:List Item}
attribute [local irreducible] W G V D A j7 Eff
theorem dw6{tt:Int}{out:List Ev}{e:Ev}(h:∀e∈out,J1 n e/\e.tm<=60)(M:J1 n e)(ht:e.tm=tt)(hb:tt<=60):∀a∈out++[e],J1 n a/\a.tm<=60:=λa ha=>by
 rcases Gu.1 ha with ha|ha
 ·exact h a ha
 rw [Ge.1 ha];exact ⟨M,by omega⟩
theorem cb8(hl:∀q,Sl κ (ao9 b lv q::I) lv ls)(h0:0<=i)(hn:2<=n/\n<=64)(hm:0<=most/\most<=20):eu prog κ 16 [(pt b),e7 n,e7 most] (e8 b [lv,e7 i] 85::I) (λr J=>∃y:(Option Addr)×Nat×(List Ev)×Int,((r = .slice y.1 y.2.2.1.length y.2.1/\((∀e∈y.2.2.1,J1 n e/\e.tm<=60)/\(y.2.2.1.length:Int)<=most))/\0<=y.2.2.2)/\J=[vk 54 y.1 y.2.1 y.2.2.1]++ao9 b lv y.2.2.2::I):=by
 refine Ce3 Tryz.func16 C C<|Z ?_
 refine G.e (Ac c_ C C<|R1 ta1 (Bd (hl _) Ah) om om) ?_
 rintro _ _ ⟨_,_,⟨x1,i2,rfl,a0,aw,rfl⟩,rfl,rfl⟩
 refine Ga C<|Ar<|A8<|Dh (σ:=Int×Int×(Option Addr)×Nat×(List Ev)×Int) (λs=>[(7,.slice s.2.2.1 s.2.2.2.2.1.length s.2.2.2.1),(8,e7<|s.2.2.2.2.2),(9,e7<|s.1)]) (λs=>[vk 54 s.2.2.1 s.2.2.2.1 s.2.2.2.2.1,e8 b [lv,e7<|s.2.1] 85]) (λs=>(0<=s.1/\(s.2.2.2.2.1.length:Int)+s.1<=most)/\(0<=s.2.1)/\(∀e∈s.2.2.2.2.1,J1 n e/\e.tm<=60)/\(5<=s.2.2.2.2.2/\s.2.2.2.2.2<=5+2*(s.2.2.2.2.1.length:Int))) (λs=>s.1.toNat) (x1,i2,none,0,[],5) ⟨tb3,om,(λe he=>by cases he),tb3⟩ (hI:=(B6 _ _)) ?_
 rintro ⟨kq,ad,a1,c1,out,tt⟩ hp
 dsimp only at hp ⊢
 obtain ⟨ay,ar,hE,av⟩:=hp
 refine Z ?_
 refine A1 (d:=16) C (λao=>Z ?_)<|λao=>Z ?_
 ·refine Al C (λak=>Z ?_) (λak=>?_)
  ·refine G.e (Ac c_ C C<|R1 ta1 (Bd (hl _) Ah) om om) ?_
   rintro _ _ ⟨_,_,⟨x3,i4,rfl,ax,az,rfl⟩,rfl,rfl⟩
   refine Z ?_
   have ai:(if 0<(tt - x3) then (tt - x3) else 0)=max 0 ((tt - x3)):=by split<;>omega
   rw [ai]
   refine G.e (Ac c_ C C<|bn7 ta1 (λ_=>Bd (hl _) Ah) om  om om) ?_
   rintro _ _ ⟨_,_,⟨⟨M,i6⟩,⟨⟨rfl,ab,aa⟩,ae⟩,rfl⟩,rfl,rfl⟩
   have ae:0<=i6:=ae
   dsimp only at ab
   dsimp only at aa
   refine Ge1 (B0 (α:=Ev) (cs:=(ez M)) (xs:=[⟨M.kd,M.tm,M.u,M.v,M.w,M.lb,M.sg⟩]) Ad z6 C C dc dc C kr C C) λa3=>?_
   refine Ge2 (Bp (α:=Ev) (e:=54) (xs:=out) (ys:=([M]:List Ev)) Ad z6 C C C mm A5 lcn dc C<|λ_ _=>am) λan aj=>Z ?_
   refine G.e (Ac c_ C C<|R1 ta1 (Bd (hl _) Ah) om om) ?_
   rintro _ _ ⟨_,_,⟨ap,ah,rfl,au,aq,rfl⟩,rfl,rfl⟩
   refine Z ?_
   exact Bt ((kq - 1),(ah),(an),(aj),(out++([M]:List Ev)),(tt+ap))<|by dsimp only;exact ⟨lap,om,(by first|exact dw6 hE asm asm om),lap⟩
  exact absurd hn.1 om
 exact Ak C C (vk 54 a1 c1 out::e8 b [lv,e7 ad] 85::I) Ai ⟨(a1,c1,out,ad),⟨⟨rfl,⟨hE,by show (out.length:Int)<=most;omega⟩⟩,by show 0<=ad;omega⟩,rfl⟩
theorem cy5{F:Item->List Item}(M:AtF I (ao9 b lv i) F)(hl:∀q,Sl κ (F (ao9 b lv q)) lv ls)(h0:0<=i)(hn:2<=n/\n<=64)(hm:0<=most/\most<=20):eu prog κ 16 [(pt b),e7 n,e7 most] I λr J=>∃y:(Option Addr)×Nat×(List Ev)×Int,((r = .slice y.1 y.2.2.1.length y.2.1/\((∀e∈y.2.2.1,J1 n e/\e.tm<=60)/\(y.2.2.1.length:Int)<=most))/\0<=y.2.2.2)/\J=[vk 54 y.1 y.2.1 y.2.2.1]++F (ao9 b lv y.2.2.2):=
 Fo (Post:=λr (y:(Option Addr)×Nat×(List Ev)×Int)=>(r = .slice y.1 y.2.2.1.length y.2.1/\((∀e∈y.2.2.1,J1 n e/\e.tm<=60)/\(y.2.2.1.length:Int)<=most))/\0<=y.2.2.2) (Z:=λy:(Option Addr)×Nat×(List Ev)×Int=>[vk 54 y.1 y.2.1 y.2.2.1]) (X:=λy:(Option Addr)×Nat×(List Ev)×Int=>ao9 b lv y.2.2.2) M λJ _ hF=>cb8 (λq=>(hl q).fit (hF _)) h0  hn hm
end Go.Sl
namespace Go.Sl
open Go.Proofs
set_option maxRecDepth 4000
end Go.Sl
namespace Go.Sl
open Go.Proofs
set_option maxRecDepth 4000
variable{ws:List Ev}{k wc:Nat}{bd m:Int}{wa:Option Addr}
variable {κ:Ctx}{I:List Item}
attribute [local irreducible] W G V D A j7 Eff
theorem fb4(h:ws.Pairwise λa b=>a.tm<=b.tm)(h0:0<k)(M:k<ws.length):(e_ ws ((k:Int) - 1)).tm<=(e_ ws k).tm:=by
 have e:((k:Int) - 1)=((k - 1:Nat):Int):=by omega
 rw [e]
 exact (Fd ws).1 h (k - 1) k om M
theorem ak1(M:k<ws.length):(ao7 m (ws.take (k+1))=ao7 m (ws.take k)++if (e_ ws k).tm<=m then [e_ ws k] else [])/\(beyond m (ws.take (k+1))=beyond m (ws.take k)++if (e_ ws k).tm<=m then [] else [e_ ws k]):=by
 unfold ao7 beyond
 rw [Ca ws k M,Gs,Gs]
 by_cases h:(e_ ws k).tm<=m<;>simp [h]
theorem ax0{bf:BfS}(hl:Sl κ I (.slice wa bf.ws.length wc) bf.ws)(M:au4 bd bf)(hw:bf.ws.length<=4096):eu prog κ 111 [.agg #[e7 bd,e7 (bf.lt),e7 (bf.mr),.slice wa bf.ws.length wc]] I (λr J=>r = .bool true/\I=J):=by
 have ax:=M.bd
 have au:=M.lt
 have aw:=M.mr
 refine Ce1 Tryz.func111 C C ?_
 refine Am<|Ge1 (Au (cs:=[_,_,_,_]) C C C) λb1=>Z ?_
 refine A1 (d:=8) C (λg8=>?_)<|λg8=>Z ?_
 ·omega
 refine A1 (d:=13) C (λan=>?_)<|λan=>Z ?_
 ·omega
 refine A1 (d:=18) C (λak=>?_)<|λak=>Z ?_
 ·omega
 refine A1 (d:=25) C (λao=>?_)<|λao=>Z ?_
 ·omega
 refine A1 (d:=30) C (λae=>?_)<|λae=>Z ?_
 ·omega
 refine Al C (λah=>?_)<|λah=>Z ?_
 ·omega
 refine Dh (σ:=Nat) (λs=>[(39,e7 ((s:Nat):Int))]) (λ_=>[]) (λs=>(s<=bf.ws.length)) (λs=>bf.ws.length - s) 0 om ?_
 rintro k hp
 have hk:=hp
 refine Z ?_
 refine Al C (λaq=>Z ?_)<|λaq=>Z ?_
 ·have ab:=M.chk _ (Bn (xs:=bf.ws) (i:=(k:Int)) om om)
  have av:=M.rng _ (Bn (xs:=bf.ws) (i:=(k:Int)) om om)
  have aa:=λq:0<k=>fb4 M.asc (k:=k) q om
  refine Ge1 (Aj z6 C) λb2=>Ga C<|Ge0 (Fk z6) ?_
  refine Ar<|Ay<|A9 mixed<|Ed 33<|Z ?_
  refine Ds1 1<|Sc0 C (Ac c_ C C<|Z6<|e_ bf.ws k)<|Z ?_
  refine Dk (d:=47) C (λad=>?_)<|λad=>Z ?_
  ·exact absurd ab ad
  refine Dk (d:=54) C (λai=>?_)<|λai=>Z ?_
  ·omega
  refine Dk (d:=61) C (λap=>?_)<|λap=>Z ?_
  ·omega
  refine Dk (d:=64) C (λar=>Z ?_)<|λar=>?_
  ·refine Al C (λaj=>?_) (λaj=>Z ?_)
   ·exact absurd (aa om) om
   exact Bt ((k+1)) om
  refine Dpo 21 C<|Z ?_
  exact Bt ((k+1)) om
 exact Ak C C I Ah ⟨rfl,rfl⟩
theorem cq0{lt mr:Int}(hl:Sl κ I (.slice wa ws.length wc) ws)(hw:ws.length<=5000):eu prog κ 113 [.agg #[e7 bd,e7 lt,e7 mr,.slice wa ws.length wc],e7 m] I (λr J=>∃(a:Option Addr) (c:Nat) (a2:Option Addr) (c2:Nat),r = .tuple #[.agg #[e7 bd,e7 lt,e7 (max mr m),.slice a (beyond m ws).length c],.slice a2 (ao7 m ws).length c2]/\J=vk 54 a2 c2 (ao7 m ws)::vk 54 a c (beyond m ws)::I):=by
 refine Ce2 Tryz.func113 C C ?_
 refine Am<|Ge1 (Au (cs:=[_,_,_,_]) C C C) λb1=>Ge1 (Aj J4 C) λb2=>Z ?_
 refine B9 (σ:=Nat×(Option Addr)×Nat×(List Ev)×(Option Addr)×Nat×(List Ev)) (λs=>([(1,e7 m),(2,pt b1),(4,pt b2),(6,.slice s.2.1 s.2.2.2.1.length s.2.2.1),(7,.slice s.2.2.2.2.1 s.2.2.2.2.2.2.length s.2.2.2.2.2.1),(11,.slice wa ws.length wc),(12,e7 ((ws.length:Nat):Int)),(13,e7 ((s.1:Nat):Int))]:Env)) (λs=>vk 54 s.2.1 s.2.2.1 s.2.2.2.1::vk 54 s.2.2.2.2.1 s.2.2.2.2.2.1 s.2.2.2.2.2.2::e8 b2 [e7 0,e7 0,e7 0,.slice none 0 0] 32::e8 b1 [e7 bd,e7 lt,e7 mr,.slice wa ws.length wc] 32::I) (λs=>(s.1<=ws.length)/\(s.2.2.2.1=ao7 m (ws.take s.1))/\(s.2.2.2.2.2.2=beyond m (ws.take s.1))/\(s.2.2.2.1.length<=s.1/\s.2.2.2.2.2.2.length<=s.1)) (λs=>ws.length - s.1) (0,none,0,[],none,0,[]) ⟨om,rfl,rfl,(by simp)⟩ (cx2<|Aa C<|Aa (Db C<|by first|rfl|simp)<|Aa (Db C<|by first|rfl|simp)<|cx2<|Aa Cn Bb) (A7 (A7 (show Fit κ _ _ from Az)<|B6 (α:=Ev) _ _)<|B6 (α:=Ev) _ _) ?_
 rintro ⟨k,oa,oc,o,ra,rc,rs⟩ hp
 dsimp only at hp ⊢
 obtain ⟨hk,ho,hr,aj⟩:=hp
 refine Z ?_
 refine Al C (λae=>Z ?_)<|λae=>Z ?_
 ·refine Ge1 (Aj z6 C) λb3=>Ge0 (Fk z6) (Z ?_)
  refine Al C (λM=>Z ?_)<|λM=>Z ?_
  ·refine Ge1 (B0 (α:=Ev) (cs:=(ez (e_ ws k))) (xs:=[⟨(e_ ws k).kd,(e_ ws k).tm,(e_ ws k).u,(e_ ws k).v,(e_ ws k).w,(e_ ws k).lb,(e_ ws k).sg⟩]) Ad z6 C C dc dc C kr C C) λai=>?_
   refine Ge2 (Bp (α:=Ev) (e:=54) (xs:=o) (ys:=([⟨(e_ ws k).kd,(e_ ws k).tm,(e_ ws k).u,(e_ ws k).v,(e_ ws k).w,(e_ ws k).lb,(e_ ws k).sg⟩]:List Ev)) Ad z6 C C C mm A5 lcn dc C<|λ_ _=>am) λad aa=>Z ?_
   exact Bt ((k+1),(ad),(aa),(o++([⟨(e_ ws k).kd,(e_ ws k).tm,(e_ ws k).u,(e_ ws k).v,(e_ ws k).w,(e_ ws k).lb,(e_ ws k).sg⟩]:List Ev)),(ra),(rc),(rs))<|by dsimp only;exact ⟨om,(by rw [(ak1 om).1,←ho];first|(rw [B_ M];done)|(rw [B_ M];rfl)|(rw [An M,Gt])),(by rw [(ak1 om).2,←hr];first|(rw [An M];done)|(rw [An M];rfl)|(rw [B_ M,Gt])),olp⟩
  refine Ge1 (B0 (α:=Ev) (cs:=(ez (e_ ws k))) (xs:=[⟨(e_ ws k).kd,(e_ ws k).tm,(e_ ws k).u,(e_ ws k).v,(e_ ws k).w,(e_ ws k).lb,(e_ ws k).sg⟩]) Ad z6 C C dc dc C kr C C) λak=>?_
  refine Ge2 (Bp (α:=Ev) (e:=54) (xs:=rs) (ys:=([⟨(e_ ws k).kd,(e_ ws k).tm,(e_ ws k).u,(e_ ws k).v,(e_ ws k).w,(e_ ws k).lb,(e_ ws k).sg⟩]:List Ev)) Ad z6 C C C mm A5 lcn dc C<|λ_ _=>am) λah ab=>Z ?_
  exact Bt ((k+1),(oa),(oc),(o),(ah),(ab),(rs++([⟨(e_ ws k).kd,(e_ ws k).tm,(e_ ws k).u,(e_ ws k).v,(e_ ws k).w,(e_ ws k).lb,(e_ ws k).sg⟩]:List Ev)))<|by dsimp only;exact ⟨om,(by rw [(ak1 om).1,←ho];first|(rw [B_ M];done)|(rw [B_ M];rfl)|(rw [An M,Gt])),(by rw [(ak1 om).2,←hr];first|(rw [An M];done)|(rw [An M];rfl)|(rw [B_ M,Gt])),olp⟩
 refine Ge0 (Br (cs:=[_,_,_,_]) (vs:=[_]) (cs':=[_,_,_,_]) ap3) ?_
 refine Gf cf9 C<|Ge0 (Br (cs:=[_,_,_,_]) (vs:=[_]) (cs':=[_,_,_,_]) ef)<|Z ?_
 refine Ge0 (C7 J4)<|Z ?_
 rw [show ws.take k=ws from Fx om] at ho hr
 exact Co C J4 C C mm C (vk 54 oa oc (ao7 m ws)::vk 54 ra rc (beyond m ws)::I) (by unfold vk;rw [←ho,←hr];exact Az) ⟨ra,rc,oa,oc,by rw [←ho,←hr,←ao0],rfl⟩
variable {κ:Ctx}{I:List Item}
theorem fe1{bf:BfS}(hl:Sl κ I (.slice wa bf.ws.length wc) bf.ws)(hw:bf.ws.length<=4096):eu prog κ 112 [.agg #[e7 bd,e7 (bf.lt),e7 (bf.mr),.slice wa bf.ws.length wc]] I (λr J=>∃(a:Option Addr) (c:Nat),r = .agg #[e7 bd,e7 bf.lt,e7 bf.mr,.slice a bf.ws.length c]/\J=vk 54 a c bf.ws::I):=by
 refine Ce1 Tryz.func112 C C ?_
 refine Am<|Ge1 (Au (cs:=[_,_,_,_]) C C C) λb1=>Ge1 (Aj J4 C) λb2=>Z ?_
 refine Ge2 (E8 (α:=Ev) (ys:=bf.ws) Ad z6 C C C (A4 hl) om dc C) λM aa=>?_
 refine Gf R0 C<|Ge0 (Br (cs:=[_,_,_,_]) (vs:=[_]) (cs':=[_,_,_,_]) ap3)<|Z ?_
 refine Ge0 (C7 J4) ?_
 exact Ar<|B2<|Ej C J4 C mm C (vk 54 M aa (bf.ws)::I) Az ⟨M,aa,rfl,rfl⟩
theorem cx8{e:Ev}{bf:BfS}(hl:Sl κ I (.slice wa bf.ws.length wc) bf.ws)(hB:au4 bd bf)(hw:bf.ws.length<=4096)(he:z7 e=0)(ht:e.tm<=bf.mr):eu prog κ 67 [.agg #[e7 bd,e7 (bf.lt),e7 (bf.mr),.slice wa bf.ws.length wc],.agg (ez e).toArray] I (λr J=>∃(a:Option Addr) (c:Nat),r = .tuple #[.agg #[e7 bd,e7 bf.lt,e7 bf.mr,.slice a bf.ws.length c],.slice none 0 0,e7 10]/\I=J):=by
 have ai:=hB.bd
 have ae:=hB.lt
 have ah:=hB.mr
 refine Ce2 Tryz.func67 C C ?_
 refine Am<|Ge1 (Au (cs:=[_,_,_,_]) C C C) λb1=>Ge1 (Au (cs:=[_,_,_,_,_,_,_]) C C C) λb2=>Ge1 (Aj J4 C) λb3=>Z ?_
 refine G.e (Ac c_ C C<|ax0 (bd:=bd) (bf:=bf) (A4 hl) hB om) ?_
 rintro _ _ ⟨_,_,⟨rfl,rfl⟩,rfl,rfl⟩
 refine Z ?_
 refine Gc0 (Ac c_ C C<|Z6 e)<|Z ?_
 refine Al C (λM=>?_)<|λM=>Z ?_
 ·exact absurd he M
 refine Al C (λab=>Z ?_)<|λab=>?_
 ·refine Gc2 (Ac c_ C C<|fe1 (bd:=bd) (bf:=bf) (A4 hl) om) λaa ad=>?_
  refine Ge0 (C7 J4)<|Z ?_
  exact Cu C J4 C C C mm C I Ah ⟨aa,ad,rfl,rfl⟩
 omega
theorem ak7{bf:BfS}{e:Ev}{i:Nat}(h:M4 evC bf.ws e bf.ws.length=i):List.take i bf.ws++[⟨e.kd,e.tm,e.u,e.v,e.w,e.lb,e.sg⟩]++List.drop i bf.ws=K4 bf e:=bc9 h
theorem ta3{p:Prop}(h:p:=by first|omega|(simp only [By,Fr,Fz,E_,Fw];omega)):p:=h
theorem dp0{e:Ev}{bf:BfS}(hl:Sl κ I (.slice wa bf.ws.length wc) bf.ws)(hB:au4 bd bf)(hw:bf.ws.length<=4096)(he:z7 e=0)(ht:bf.mr<e.tm)(hT:0<=e.tm/\e.tm<=1048576)(b4:bf.ws.length<4096):eu prog κ 67 [.agg #[e7 bd,e7 (bf.lt),e7 (bf.mr),.slice wa bf.ws.length wc],.agg (ez e).toArray] I (λr J=>∃(a:Option Addr) (c:Nat) (a2:Option Addr) (c2:Nat),r = .tuple #[.agg #[e7 bd,e7 (bf.push bd e).lt,e7 (bf.push bd e).mr,.slice a (bf.push bd e).ws.length c],.slice a2 ((bf.out bd e)).length c2,e7 0]/\J=vk 54 a2 c2 ((bf.out bd e))::vk 54 a c (bf.push bd e).ws::I):=by
 have bv:=hB.bd
 have bw:=hB.lt
 have b6:=hB.mr
 refine Ce2 Tryz.func67 C C ?_
 refine Am<|Ge1 (Au (cs:=[_,_,_,_]) C C C) λb1=>Ge1 (Au (cs:=[_,_,_,_,_,_,_]) C C C) λb2=>Ge1 (Aj J4 C) λb3=>Z ?_
 refine G.e (Ac c_ C C<|ax0 (bd:=bd) (bf:=bf) (A4 hl) hB om) ?_
 rintro _ _ ⟨_,_,⟨rfl,rfl⟩,rfl,rfl⟩
 refine Z ?_
 refine Gc0 (Ac c_ C C<|Z6 e)<|Z ?_
 refine Al C (λa0=>?_)<|λa0=>Z ?_
 ·exact absurd he a0
 refine Al C (λa8=>?_)<|λa8=>Z ?_
 ·omega
 refine Al C (λa6=>?_)<|λa6=>Z ?_
 ·omega
 refine Dh (σ:=Nat) (λs=>[(8,e7 ((s:Nat):Int))]) (λ_=>[]) (λs=>(s<=bf.ws.length)/\(M4 evC bf.ws e bf.ws.length=M4 evC bf.ws e s)) (λs=>s) (bf.ws.length) ⟨om,rfl⟩ ?_
 rintro i hp
 obtain ⟨hi,hj⟩:=hp
 refine Ay<|Ay<|A9 mixed<|Ed 14<|Z ?_
 refine Dk (d:=42) C (λa4=>Z ?_)<|λa4=>?_
 ·refine Al C (λaa=>Z ?_) (λaa=>Z ?_)
  ·exact Bt ((i - 1)) ⟨om,(bk5 om aa hj)⟩
  refine Gr (j7.hi (α:=Ev) (xs:=bf.ws) (h:=i) Ad z6 C C om (A4 hl) om)<|Ge2 (E8 (α:=Ev) (ys:=List.take i bf.ws) Ad z6 C C C (Sl.take (A4 hl) om) ta3 dc C) λb8 b7=>?_
  refine Ga C<|Ar<|Fe (σ:=(Option Addr)×Nat) (λs=>([(2,pt b1),(3,pt b2),(4,pt b3)]:Env)) (λs=>e8 b1 [e7 bd,e7<|bf.lt,e7<|bf.mr,.slice s.1 (K4 bf e).length s.2] 32::vk 54 s.1 s.2 (K4 bf e)::e8 b3 [e7 0,e7 0,e7 0,.slice none 0 0] 32::e8 b2 (ez e) 54::I) (λs=>True) ?_ ?_
  ·refine A9 mixed (Bx (e8 b3 [e7 0,e7 0,e7 0,.slice none 0 0] 32::e8 b2 (ez e) 54::I) 10<|Z ?_)
   refine C8 (rs:=[2,5]) kr C C<|Ei ?_<|Do ?_
   ·refine Se1 C (B0 (α:=Ev) (cs:=(ez e)) (xs:=[⟨e.kd,e.tm,e.u,e.v,e.w,e.lb,e.sg⟩]) Ad z6 C C dc dc C kr C C) λbu=>?_
    refine C8 (rs:=[3,5]) kr C C<|Ei ?_<|Do ?_
    ·refine Se2 C (Bp (α:=Ev) (e:=54) (xs:=List.take i bf.ws) (ys:=([⟨e.kd,e.tm,e.u,e.v,e.w,e.lb,e.sg⟩]:List Ev)) Ad z6 C C C mm A5 ta3 dc C<|λ_ _=>am) λb5 bt=>?_
     refine Ds1 5<|Sr C (Bf ap3) Az ?_
     refine Dr 7 C (Dn (α:=Ev) (xs:=bf.ws) (l:=i) Ad z6 C C om (A4 hl) om)<|Ds1 8<|Se2 C (Bp (α:=Ev) (e:=54) (xs:=(List.take i bf.ws)++([⟨e.kd,e.tm,e.u,e.v,e.w,e.lb,e.sg⟩]:List Ev)) (ys:=List.drop i bf.ws) Ad z6 C C C mm (Es (A4 hl) om) ta3 dc C<|λ_ _=>am) λa7 az=>Z ?_
     refine Cg kr ?_
     refine Ae 10 C (Br (cs:=[_,_,_,_]) (vs:=[_]) (cs':=[_,_,_,_]) ap3) ?_
     rintro _ _ ⟨rfl,rfl⟩
     refine Ch kr ?_
     have M:((List.take i bf.ws)++([⟨e.kd,e.tm,e.u,e.v,e.w,e.lb,e.sg⟩]:List Ev))++(List.drop i bf.ws)=K4 bf e:=ak7 (M8 (by intro h;first|omega|exact aa) hj)
     exact Di ((a7),(az)) trivial (hI:=by (try dsimp only);exact (by rw [←M];exact Az))
    refine Sr C (Bf ap3) Az ?_
    refine Dr 7 C (Dn (α:=Ev) (xs:=bf.ws) (l:=i) Ad z6 C C om (A4 hl) om)<|Ds1 3<|Se2 C (Bp (α:=Ev) (e:=54) (xs:=List.take i bf.ws) (ys:=([⟨e.kd,e.tm,e.u,e.v,e.w,e.lb,e.sg⟩]:List Ev)) Ad z6 C C C mm A5 ta3 dc C<|λ_ _=>am) λbk bb=>?_
    refine Ds1 8<|Se2 C (Bp (α:=Ev) (e:=54) (xs:=(List.take i bf.ws)++([⟨e.kd,e.tm,e.u,e.v,e.w,e.lb,e.sg⟩]:List Ev)) (ys:=List.drop i bf.ws) Ad z6 C C C mm (Es (A4 hl) om) ta3 dc C<|λ_ _=>am) λay a1=>Z ?_
    refine Cg kr ?_
    refine Ae 10 C (Br (cs:=[_,_,_,_]) (vs:=[_]) (cs':=[_,_,_,_]) ap3) ?_
    rintro _ _ ⟨rfl,rfl⟩
    refine Ch kr ?_
    have M:((List.take i bf.ws)++([⟨e.kd,e.tm,e.u,e.v,e.w,e.lb,e.sg⟩]:List Ev))++(List.drop i bf.ws)=K4 bf e:=ak7 (M8 (by intro h;first|omega|exact aa) hj)
    exact Di ((ay),(a1)) trivial (hI:=by (try dsimp only);exact (by rw [←M];exact Az))
   refine Sr C (Bf ap3) Az ?_
   refine Dr 7 C (Dn (α:=Ev) (xs:=bf.ws) (l:=i) Ad z6 C C om (A4 hl) om)<|Ds1 2<|Se1 C (B0 (α:=Ev) (cs:=(ez e)) (xs:=[⟨e.kd,e.tm,e.u,e.v,e.w,e.lb,e.sg⟩]) Ad z6 C C dc dc C kr C C) λbp=>?_
   refine Ds1 3<|Se2 C (Bp (α:=Ev) (e:=54) (xs:=List.take i bf.ws) (ys:=([⟨e.kd,e.tm,e.u,e.v,e.w,e.lb,e.sg⟩]:List Ev)) Ad z6 C C C mm A5 ta3 dc C<|λ_ _=>am) λbj bc=>?_
   refine Ds1 8<|Se2 C (Bp (α:=Ev) (e:=54) (xs:=(List.take i bf.ws)++([⟨e.kd,e.tm,e.u,e.v,e.w,e.lb,e.sg⟩]:List Ev)) (ys:=List.drop i bf.ws) Ad z6 C C C mm (Es (A4 hl) om) ta3 dc C<|λ_ _=>am) λar ax=>Z ?_
   refine Cg kr ?_
   refine Ae 10 C (Br (cs:=[_,_,_,_]) (vs:=[_]) (cs':=[_,_,_,_]) ap3) ?_
   rintro _ _ ⟨rfl,rfl⟩
   refine Ch kr ?_
   have M:((List.take i bf.ws)++([⟨e.kd,e.tm,e.u,e.v,e.w,e.lb,e.sg⟩]:List Ev))++(List.drop i bf.ws)=K4 bf e:=ak7 (M8 (by intro h;first|omega|exact aa) hj)
   exact Di ((ar),(ax)) trivial (hI:=by (try dsimp only);exact (by rw [←M];exact Az))
  rintro ⟨a5,a9⟩ hp
  refine Z ?_
  refine Ge0 (Br (cs:=[_,_,_,_]) (vs:=[_]) (cs':=[_,_,_,_]) ef)<|Z ?_
  have ao:((if bf.lt<e.tm then e.tm else bf.lt) - bd) - 1=ah3 bd bf e:=by unfold ah3;rw [ao0]
  rw [ao]
  refine G.e (Ac c_ C C<|cq0 (bd:=bd) (lt:=if bf.lt<e.tm then e.tm else bf.lt) (mr:=bf.mr) (m:=(ah3 bd bf e)) A5<|by rw [ab8];omega) ?_
  rintro _ _ ⟨_,_,⟨ah,ad,an,ae,rfl,rfl⟩,rfl,rfl⟩
  refine Z ?_
  refine Ge1 (Aj J4 C) λca=>Ge0 (C7 J4)<|Z ?_
  refine Ge0 (C7 J4)<|Z ?_
  exact Cu C J4 C C C mm C (vk 54 an ae ((bf.out bd e))::vk 54 ah ad (bf.push bd e).ws::I) Az ⟨ah,ad,an,ae,(by rw [ao0];rfl),rfl⟩
 refine Dpo 3 C<|Z ?_
 refine Gr (j7.hi (α:=Ev) (xs:=bf.ws) (h:=i) Ad z6 C C om (A4 hl) om)<|Ge2 (E8 (α:=Ev) (ys:=List.take i bf.ws) Ad z6 C C C (Sl.take (A4 hl) om) ta3 dc C) λbi ba=>?_
 refine Ga C<|Ar<|Fe (σ:=(Option Addr)×Nat) (λs=>([(2,pt b1),(3,pt b2),(4,pt b3)]:Env)) (λs=>e8 b1 [e7 bd,e7<|bf.lt,e7<|bf.mr,.slice s.1 (K4 bf e).length s.2] 32::vk 54 s.1 s.2 (K4 bf e)::e8 b3 [e7 0,e7 0,e7 0,.slice none 0 0] 32::e8 b2 (ez e) 54::I) (λs=>True) ?_ ?_
 ·refine A9 mixed (Bx (e8 b3 [e7 0,e7 0,e7 0,.slice none 0 0] 32::e8 b2 (ez e) 54::I) 10<|Z ?_)
  refine C8 (rs:=[2,5]) kr C C<|Ei ?_<|Do ?_
  ·refine Se1 C (B0 (α:=Ev) (cs:=(ez e)) (xs:=[⟨e.kd,e.tm,e.u,e.v,e.w,e.lb,e.sg⟩]) Ad z6 C C dc dc C kr C C) λbq=>?_
   refine C8 (rs:=[3,5]) kr C C<|Ei ?_<|Do ?_
   ·refine Se2 C (Bp (α:=Ev) (e:=54) (xs:=List.take i bf.ws) (ys:=([⟨e.kd,e.tm,e.u,e.v,e.w,e.lb,e.sg⟩]:List Ev)) Ad z6 C C C mm A5 ta3 dc C<|λ_ _=>am) λbg bo=>?_
    refine Ds1 5<|Sr C (Bf ap3) Az ?_
    refine Dr 7 C (Dn (α:=Ev) (xs:=bf.ws) (l:=i) Ad z6 C C om (A4 hl) om)<|Ds1 8<|Se2 C (Bp (α:=Ev) (e:=54) (xs:=(List.take i bf.ws)++([⟨e.kd,e.tm,e.u,e.v,e.w,e.lb,e.sg⟩]:List Ev)) (ys:=List.drop i bf.ws) Ad z6 C C C mm (Es (A4 hl) om) ta3 dc C<|λ_ _=>am) λaw aq=>Z ?_
    refine Cg kr ?_
    refine Ae 10 C (Br (cs:=[_,_,_,_]) (vs:=[_]) (cs':=[_,_,_,_]) ap3) ?_
    rintro _ _ ⟨rfl,rfl⟩
    refine Ch kr ?_
    have M:((List.take i bf.ws)++([⟨e.kd,e.tm,e.u,e.v,e.w,e.lb,e.sg⟩]:List Ev))++(List.drop i bf.ws)=K4 bf e:=ak7 (M8 (by intro h;first|omega|exact aa) hj)
    exact Di ((aw),(aq)) trivial (hI:=by (try dsimp only);exact (by rw [←M];exact Az))
   refine Sr C (Bf ap3) Az ?_
   refine Dr 7 C (Dn (α:=Ev) (xs:=bf.ws) (l:=i) Ad z6 C C om (A4 hl) om)<|Ds1 3<|Se2 C (Bp (α:=Ev) (e:=54) (xs:=List.take i bf.ws) (ys:=([⟨e.kd,e.tm,e.u,e.v,e.w,e.lb,e.sg⟩]:List Ev)) Ad z6 C C C mm A5 ta3 dc C<|λ_ _=>am) λbn bh=>?_
   refine Ds1 8<|Se2 C (Bp (α:=Ev) (e:=54) (xs:=(List.take i bf.ws)++([⟨e.kd,e.tm,e.u,e.v,e.w,e.lb,e.sg⟩]:List Ev)) (ys:=List.drop i bf.ws) Ad z6 C C C mm (Es (A4 hl) om) ta3 dc C<|λ_ _=>am) λa3 ap=>Z ?_
   refine Cg kr ?_
   refine Ae 10 C (Br (cs:=[_,_,_,_]) (vs:=[_]) (cs':=[_,_,_,_]) ap3) ?_
   rintro _ _ ⟨rfl,rfl⟩
   refine Ch kr ?_
   have M:((List.take i bf.ws)++([⟨e.kd,e.tm,e.u,e.v,e.w,e.lb,e.sg⟩]:List Ev))++(List.drop i bf.ws)=K4 bf e:=ak7 (M8 (by intro h;first|omega|exact aa) hj)
   exact Di ((a3),(ap)) trivial (hI:=by (try dsimp only);exact (by rw [←M];exact Az))
  refine Sr C (Bf ap3) Az ?_
  refine Dr 7 C (Dn (α:=Ev) (xs:=bf.ws) (l:=i) Ad z6 C C om (A4 hl) om)<|Ds1 2<|Se1 C (B0 (α:=Ev) (cs:=(ez e)) (xs:=[⟨e.kd,e.tm,e.u,e.v,e.w,e.lb,e.sg⟩]) Ad z6 C C dc dc C kr C C) λbm=>?_
  refine Ds1 3<|Se2 C (Bp (α:=Ev) (e:=54) (xs:=List.take i bf.ws) (ys:=([⟨e.kd,e.tm,e.u,e.v,e.w,e.lb,e.sg⟩]:List Ev)) Ad z6 C C C mm A5 ta3 dc C<|λ_ _=>am) λbr be=>?_
  refine Ds1 8<|Se2 C (Bp (α:=Ev) (e:=54) (xs:=(List.take i bf.ws)++([⟨e.kd,e.tm,e.u,e.v,e.w,e.lb,e.sg⟩]:List Ev)) (ys:=List.drop i bf.ws) Ad z6 C C C mm (Es (A4 hl) om) ta3 dc C<|λ_ _=>am) λau av=>Z ?_
  refine Cg kr ?_
  refine Ae 10 C (Br (cs:=[_,_,_,_]) (vs:=[_]) (cs':=[_,_,_,_]) ap3) ?_
  rintro _ _ ⟨rfl,rfl⟩
  refine Ch kr ?_
  have M:((List.take i bf.ws)++([⟨e.kd,e.tm,e.u,e.v,e.w,e.lb,e.sg⟩]:List Ev))++(List.drop i bf.ws)=K4 bf e:=ak7 (M8 (by intro h;first|omega|exact aa) hj)
  exact Di ((au),(av)) trivial (hI:=by (try dsimp only);exact (by rw [←M];exact Az))
 rintro ⟨a5,a9⟩ hp
 refine Z ?_
 refine Ge0 (Br (cs:=[_,_,_,_]) (vs:=[_]) (cs':=[_,_,_,_]) ef)<|Z ?_
 have ao:((if bf.lt<e.tm then e.tm else bf.lt) - bd) - 1=ah3 bd bf e:=by unfold ah3;rw [ao0]
 rw [ao]
 refine G.e (Ac c_ C C<|cq0 (bd:=bd) (lt:=if bf.lt<e.tm then e.tm else bf.lt) (mr:=bf.mr) (m:=(ah3 bd bf e)) A5<|by rw [ab8];omega) ?_
 rintro _ _ ⟨_,_,⟨ab,ak,aj,ai,rfl,rfl⟩,rfl,rfl⟩
 refine Z ?_
 refine Ge1 (Aj J4 C) λb9=>Ge0 (C7 J4)<|Z ?_
 refine Ge0 (C7 J4)<|Z ?_
 exact Cu C J4 C C C mm C (vk 54 aj ai ((bf.out bd e))::vk 54 ab ak (bf.push bd e).ws::I) Az ⟨ab,ak,aj,ai,(by rw [ao0];rfl),rfl⟩
theorem dp1(hb:0<=bd/\bd<=1048576):eu prog κ 66 [e7 bd] I (λr J=>r = .tuple #[.agg #[e7 bd,e7 (-1),e7 (-1),.slice none 0 0],e7 0]/\I=J):=by
 refine Ce1 Tryz.func66 C C ?_
 refine Am<|Ge1 (Aj J4 C) λb1=>Z ?_
 refine A1 (d:=6) C (λM=>?_)<|λM=>Z ?_
 ·omega
 refine Al C (λc9=>?_)<|λc9=>Z ?_
 ·omega
 refine Ge0 (C7 J4) ?_
 exact Ga C<|Ar<|B2<|Co C J4 C C mm C I Ah ⟨rfl,rfl⟩
theorem dp3{κ:Ctx}{I:List Item}{nd kd wd mo:Int}(T:List Item)(ai:1<=nd/\nd<=64)(hw:s7 kd wd mo=0)(hb:0<=bd/\bd<=1048576):eu prog κ 79 [e7 nd,e7 bd,.agg #[e7 kd,e7 wd,e7 mo]] I (λr J=>∃(v':KpV) (Y:List Item),r = .tuple #[.agg (kx kd wd mo bd nd ((⟨⟨-1, -1,[]⟩,[],0⟩:EnS)) v').toArray,e7 0]/\KpF κ (Y++T) nd (⟨⟨-1, -1,[]⟩,[],0⟩:EnS) v'/\J=Y++I):=by
 refine Ce3 Tryz.func79 C C ?_
 refine Am<|Ge1 (Au (cs:=[_,_,_]) C C C) λb1=>Ge1 (Aj H3 C) λb2=>Z ?_
 refine A1 (d:=13) C (λah=>?_)<|λah=>Z ?_
 ·omega
 refine Al C (λae=>?_)<|λae=>Z ?_
 ·omega
 refine Gc0 (Ac c_ C C<|dp1 hb)<|Z ?_
 refine Ge1 (Aj J4 C) λb3=>Ge0 (C7 J4) ?_
 refine Ga C<|Ar<|A0 (S5 9 8 6 5 0)<|Ay<|Am<|Gm C<|Gr (Ci C C)<|Ar<|Al C (λaa=>?_)<|λaa=>?_
 ·exact absurd aa dc
 refine Bc<|Ao<|Ay<|Am<|Gl3 da2 ?_
 refine Gc0 (Ac c_ C C<|am3 kd wd mo) ?_
 refine Ga C<|Ar<|Am<|Gm C<|Gr (Ci C C)<|Ar<|Al C (λad=>?_)<|λad=>?_
 ·exact absurd hw ad
 refine Bc<|Ao<|Am<|Gl3 da2 ?_
 refine Gl4 J4 ?_
 refine Gm C<|Gr (Cm (cells:=[_,_]) W2 Tryz.underlying35 ge2 C C)<|Gr (Cm (cells:=[e7 kd,e7 wd,e7 mo,e7 bd,e7<|(-1),e7<|(-1),.slice none 0 0,e7 nd,.slice none 0 0,e7 0,.slice none 0 0,.slice none 0 0,e7 0,.slice none 0 0,.slice none 0 0,e7 0,.slice none 0 0,e7 0,.slice none 0 0,e7 0,.slice none 0 0,e7 0,e7 0,.slice none 0 0,e7 0]) H3 Ew fw3 C kr)<|G.e (Ac c_ C C<|ax1 (nd:=nd) (S:=[]) (Sl.nil _) (ft8 om) om) ?_
 rintro _ _ ⟨_,_,⟨M,Y5,rfl,ab,rfl⟩,rfl,rfl⟩
 refine Ds (J:=e8 b3 [e7 bd,e7<|(-1),e7<|(-1),.slice none 0 0] 32::e8 b2 zk 47::e8 b1 [e7 kd,e7 wd,e7 mo] 29::(Y5++I)) (Cj<|C0 (A:=Y5) (L:=[e8 b3 [e7 bd,e7<|(-1),e7<|(-1),.slice none 0 0] 32,e8 b2 zk 47,e8 b1 [e7 kd,e7 wd,e7 mo] 29]) (T:=I)) ?_
 show G prog κ _ _ _ _ ([(38,.agg (ky kd wd mo bd (-1) (-1) none 0 0 nd none 0 0 (j8<|[]) M 0).toArray),(37,.agg #[e7 kd,e7 wd,e7 mo,e7 bd,e7<|(-1),e7<|(-1),.slice none 0 0,e7 nd,.slice none 0 0,e7 0,.slice none 0 0,.slice none 0 0,e7 0,.slice none 0 0,.slice none 0 0,e7 0,.slice none 0 0,e7 0,.slice none 0 0,e7 0,.slice none 0 0,e7 0,e7 0,.slice none 0 0,e7 0]),(36,.agg #[e7 nd,.slice none 0 0]),(35,e7 nd),(34,.agg #[e7 bd,e7<|(-1),e7<|(-1),.slice none 0 0]),(33,.agg #[e7 kd,e7 wd,e7 mo]),(30,.bool<|decide<|(s7 kd wd mo)≠0),(29,e7<|s7 kd wd mo),(10,e7<|s7 kd wd mo),(28,e7<|s7 kd wd mo),(27,.agg #[e7 kd,e7 wd,e7 mo]),(24,.bool<|decide<|0≠0),(23,e7 0),(9,e7 0),(8,pt b3),(6,pt b2),(5,pt b1),(0,e7 nd)]:Env) (e8 b3 [e7 bd,e7<|(-1),e7<|(-1),.slice none 0 0] 32::e8 b2 zk 47::e8 b1 [e7 kd,e7 wd,e7 mo] 29::(Y5++I))
 refine Ge0 (Eff.sq H3)<|Z ?_
 exact Co C H3 C C mm C ((Y5++I)) Ah ⟨⟨⟨none,0⟩,⟨none,0⟩,M⟩,Y5,rfl,⟨Sl.nil _,Sl.nil _,PkR.fit ab<|C1<|Hm _ _⟩,rfl⟩
end Go.Sl
namespace Go.Sl
open Go.Proofs
set_option maxRecDepth 4000
variable{bd kd mo nd wd:Int}
variable {κ:Ctx}{I:List Item}
theorem fc5{k:EnS}{v:KpV}{pv:PkV}(M:KpF κ I nd k v)(hp:PkR κ I nd (j8 k.S) pv):eu prog κ 33 [.agg (kx kd wd mo bd nd k v).toArray,.agg (ky kd wd mo bd k.b.lt k.b.mr v.w.a k.b.ws.length v.w.c nd v.l.a k.S.length v.l.c (j8 k.S) pv k.tm).toArray] I λr J=>r = .bool true/\I=J:=
 cx3 (v2:=⟨v.w,v.l,pv⟩) M ⟨M.w,M.l,hp⟩
theorem bg8{k:EnS}{v:KpV}(hF:KpF κ I nd k v)(hK:EnV nd kd wd mo bd k)(an:k.b.ws.length<=4096)(h1:1<=nd):eu prog κ 122 [.agg (kx kd wd mo bd nd k v).toArray] I (λr J=>r = .bool true/\I=J):=by
 have aj:=q9 (G2 hK.inv.val)
 have ak:=aj
 rw [G7] at ak
 have ap:=hK.tm
 refine Ce1 Tryz.func122 C C ?_
 refine Am<|Ge1 (Au (cs:=[_,_,_,_,_,_,_,_,_,_,_,_,_,_,_,_,_,_,_,_,_,_,_,_,_]) C C C) λb1=>Ga C<|Ar<|Ay<|Am<|Gf aw4 C<|Gl4 J4 ?_
 refine G.e (Ac c_ C C<|ax0 (bd:=bd) (bf:=k.b) (Bd hF.w<|B3 (κ:=κ)<|by repeat (first|exact hH|exact Bh _|apply Bg|apply B1|apply Bo)) hK.buf an) ?_
 rintro _ _ ⟨_,_,⟨rfl,rfl⟩,rfl,rfl⟩
 refine Gr (Fa C)<|Gm C<|e9 (Af br8 C)<|e9 (Bm (vs:=[_,_,_]) da2) ?_
 refine Dj (Cf C C C) (Ac c_ C C<|am3 kd wd mo) ?_
 rintro _ _ ⟨_,_,⟨rfl,rfl⟩,rfl,rfl⟩
 refine e9 (Ci C C)<|Gr (Bq C C)<|Gm C<|A1 (d:=14) C (λaa=>?_)<|λaa=>?_
 ·exact absurd hK.win aa
 refine e9 (Af ao1 C)<|e9 (Bm (vs:=[_,_]) W2) ?_
 refine Dj (Cf C C C) (Ac c_ C C<|ae7 (nd:=nd)<|Bd hF.l<|B3 (κ:=κ)<|by repeat (first|exact hH|exact Bh _|apply Bg|apply B1|apply Bo)) ?_
 rintro _ _ ⟨_,_,⟨rfl,rfl⟩,rfl,rfl⟩
 refine e9 (Ci C C)<|Gr (Bq C C)<|Gm C<|A1 (d:=20) C (λad=>?_)<|λad=>?_
 ·exact absurd hK.inv.val ad
 refine e9 (Af br7 C)<|e9 (Bf ef) ?_
 refine e9 (Bj C C)<|Gr (Bq C C)<|Gm C<|A1 (d:=25) C (λai=>?_)<|λai=>?_
 ·omega
 refine e9 (Af br7 C)<|e9 (Bf ef) ?_
 refine e9 (Ec C C)<|Gr (Bq C C)<|Ar<|A0 (S2 29 1)<|Al C (λao=>?_)<|λao=>?_
 ·omega
 refine Bc<|Ao<|Ay<|Am<|Ga C<|Ar<|A8<|B9 (σ:=Nat) (λs=>([(1,pt b1),(3,e7 ((s:Nat):Int))]:Env)) (λs=>e8 b1 (kx kd wd mo bd nd k v) 47::I) (λs=>(s<=k.S.length)) (λs=>k.S.length - s) 0 (show ((0:Nat)<=k.S.length) from om) (Aa C<|Aa Cn Bb) (show Fit κ _ (e8 b1 (kx kd wd mo bd nd k v) 47::I) from Az) ?_
 rintro i hp
 have hi:=hp
 refine Ay<|Am<|Gm C<|Gf ao1 C<|Gf P1 C<|Gl au7 ?_
 refine Gr (Bl A3 C)<|Gr (Bj C C)<|Ar<|Al C (λae=>?_)<|λae=>?_
 ·refine Bc (Ao<|Ay<|A8<|Ay<|A9 mixed<|Bx (e8 b1 (kx kd wd mo bd nd k v) 47::I) 10<|Dr 0 C (Af ao1 C)<|Dr 1 C (Af P1 C)<|Dr 2 C (Bf au7) ?_)
  refine Dr 3 C (Aq C)<|Dr 4 C (A2 (α:=Lk) (xs:=k.S) A3 J7 C C (Bd hF.l<|B3 (κ:=κ)<|by repeat (first|exact hH|exact Bh _|apply Bg|apply B1|apply Bo)) om om)<|Dr 5 C (j7.fld (α:=Lk) (xs:=k.S) br5 C (Bd hF.l<|B3 (κ:=κ)<|by repeat (first|exact hH|exact Bh _|apply Bg|apply B1|apply Bo)) om)<|Dr 6 C (Fj (α:=Lk) (xs:=k.S) (u:=e7 ((e_ k.S i).tm)) ef C (Bd hF.l<|B3 (κ:=κ)<|by repeat (first|exact hH|exact Bh _|apply Bg|apply B1|apply Bo)) om om C)<|Dr 7 C (Af br7 C)<|Dr 8 C (Bf ef) ?_
  refine Dr 9 C (Ec C C)<|Dz<|Ao<|A0 (S3 47 1 3)<|Al C (λah=>?_)<|λah=>?_
  ·exact absurd (hK.inv.tm _<|Bn (xs:=k.S) (i:=(i:Int)) om om) om
  exact Bc<|Av<|Ao<|Ba<|Gm C<|Gr (Rad C C)<|Ga C<|Bs<|Bt ((i+1)) om
 refine Ck<|Aw<|Aw<|Bi<|Ao<|Ay<|A9 mixed<|Bx (e8 b1 (kx kd wd mo bd nd k v) 47::I) 5<|Dr 0 C (j7.lj H3) ?_
 refine Dr 1 C (j7.lj H3) ?_
 refine Ds1 2<|Se C (Ac c_ C C<|ax1 (nd:=nd) (S:=k.S) (Bd hF.l<|B3 (κ:=κ)<|by repeat (first|exact hH|exact Bh _|apply Bg|apply B1|apply Bo)) hK.inv.val om) ?_
 rintro _ _ ⟨_,_,⟨M,Y3,rfl,ab,rfl⟩,rfl,rfl⟩
 refine ⟨Ah,?_⟩
 refine D.fit (J:=e8 b1 (kx kd wd mo bd nd k v) 47::(Y3++I)) (Cj<|C0 (A:=Y3) (L:=[e8 b1 (kx kd wd mo bd nd k v) 47]) (T:=I)) ?_
 show D prog κ _ _ _ _ _ _ _ ([(50,.agg (ky kd wd mo bd k.b.lt k.b.mr v.w.a k.b.ws.length v.w.c nd v.l.a k.S.length v.l.c (j8 k.S) M k.tm).toArray),(49,.agg (kx kd wd mo bd nd k v).toArray),(48,.agg (kx kd wd mo bd nd k v).toArray),(35,.bool<|decide<|(i:Int)<((k.S.length:Nat):Int)),(34,e7 ((k.S.length:Nat):Int)),(33,.slice v.l.a k.S.length v.l.c),(32,.pointer<|some ⟨b1,8,none⟩),(31,.pointer<|some ⟨b1,7,none⟩),(30,e7<|(i:Int)),(1,pt b1),(3,e7<|(i:Int))]:Env) (e8 b1 (kx kd wd mo bd nd k v) 47::(Y3++I))
 refine Ds1 3<|Sc0 C (Ac c_ C C<|fc5 (k:=k) (v:=v) (pv:=M) (KpF.fit hF<|B3 (κ:=κ)<|by repeat (first|exact Bh _|apply Bg|apply Bo))<|PkR.fit ab<|C1<|by repeat (first|exact Hm _ _|apply List.Sublist.cons)) ?_
 exact Dr 4 C (Be C)<|Dz<|Ao<|B2<|Ak C C I (B3 (κ:=κ)<|by repeat (first|exact Bh _|apply Bg|apply Bo)) ⟨rfl,rfl⟩
end Go.Sl
