/- A part of the proofs of statements of this seat: contracts of functions, and the plain laws that they lean on. No conditions. -/
import Derived.Test.YtoagcglbkeomgaaGreatDoorS7
set_option linter.unusedVariables false
set_option linter.unusedSimpArgs false
set_option linter.unusedSectionVars false
namespace Go.Sl
open Go.Proofs
set_option maxRecDepth 4000
variable{xs:List Lk}{c0 k:Nat}{kd mo nd nw wd:Int}{a0:Option Addr}
variable {κ:Ctx}{I:List Item}
def cutEv(nw:Int)(l:Lk):Ev:=⟨2,nw,l.u,l.v,0,0,0⟩
theorem gone_yes{P:Lk->Bool}{f:Lk->Ev}(Z:k<xs.length)(h:P (e_ xs k)=false):((xs.take (k+1)).filter λx=> !P x).map f=((xs.take k).filter λx=> !P x).map f++[f (e_ xs k)]:=by
 rw [Cj xs k Z,List.filter_append,List.map_append];simp [h]
theorem gone_no{P:Lk->Bool}{f:Lk->Ev}(Z:k<xs.length)(h:P (e_ xs k)=true):((xs.take (k+1)).filter λx=> !P x).map f=((xs.take k).filter λx=> !P x).map f:=by
 rw [Cj xs k Z,List.filter_append,List.map_append];simp [h]
theorem filt_not{P R:Lk->Bool}(h:xs.filter P=xs.filter R):(xs.filter λx=> !P x)=xs.filter λx=> !R x:=
 List.filter_congr λx M=>by
  have Z:x∈xs.filter P↔x∈xs.filter R:=by rw [h]
  rw [List.mem_filter,List.mem_filter] at Z
  simp only [M,true_and] at Z
  cases hp:P x<;>cases hr:R x<;>simp_all
def goneL(kd wd mo nw:Int)(xs:List Lk):List Ev:=(xs.filter λx=> !inW kd wd mo nw xs x).map (cutEv nw)
theorem Gone_ok(l:Lk)(nw:Int):eu Tryz.prog κ 175 [.agg (kl l).toArray,e7 nw] I (λr J=>r = .agg #[e7 2,e7 nw,e7 l.u,e7 l.v,e7 0,e7 0,e7 0]/\I=J):=by
 refine Ce2 Tryz.func175 C C ?_
 refine Ad<|Ge1 (Bd (cs:=[_,_,_,_,_,_]) C C C) λb1=>Ge1 (A4 ty54 C) λZ=>Ac<|Ad<|Gm C<|Gf fld82_0 C<|Gl ef ?_
 refine Gf fld82_1 C<|Gl ef ?_
 refine Gr (Bq (cells:=[_,_,_,_,_,_,_]) ty54 C9 pl54 C C)<|Ge0 (E8 ty54) ?_
 exact Ac<|Az<|Ez C ty54 C mm C I Ax ⟨rfl,rfl⟩
theorem Cut5_ok(l:Lk)(nw:Int):eu Tryz.prog κ 117 [.agg (kl l).toArray,e7 nw] I (λr J=>r = .agg #[e7 2,e7 nw,e7 l.u,e7 l.v,e7 0,e7 0,e7 0]/\I=J):=by
 refine Ce2 Tryz.func117 C C ?_
 refine Ad<|Ge1 (Bd (cs:=[_,_,_,_,_,_]) C C C) λb1=>Ge1 (A4 ty54 C) λZ=>Ac<|Ad<|Gm C<|Gf fld82_0 C<|Gl ef ?_
 refine Gf fld82_1 C<|Gl ef ?_
 refine Gr (Bq (cells:=[_,_,_,_,_,_,_]) ty54 C9 pl54 C C)<|Ge0 (E8 ty54) ?_
 exact Ac<|Az<|Ez C ty54 C mm C I Ax ⟨rfl,rfl⟩
theorem Gone1_ok{Z:Option Addr}{M:Nat}(hl:Sl κ I (.slice Z xs.length M) xs)(ae:xs.length<=1000000)(hA:askE nd xs 1 wd mo nw=0):eu Tryz.prog κ 153 [.agg #[e7 nd,.slice Z xs.length M],.agg #[e7 1,e7 wd,e7 mo],e7 nw] I (λr J=>∃a c,r = .slice a (goneL 1 wd mo nw xs).length c/\J=vk 54 a c (goneL 1 wd mo nw xs)::I):=by
 refine Ce3 Tryz.func153 C C ?_
 refine Ad<|Ge1 (Bd (cs:=[_,_]) C C C) λb1=>Ge1 (Bd (cs:=[_,_,_]) C C C) λb2=>Ga C<|Ac<|Ar<|Bs mixed<|Cc (e8 b2 [e7 1,e7 wd,e7 mo] 29::e8 b1 [e7 nd,.slice Z xs.length M] 35::I) 9<|Dr 1 C (Ab fld29_0 C)<|Dr 2 C (A0 ef) ?_
 refine Dr 4 C (Bc (vs:=[_,_]) ty35) ?_
 refine Dr 5 C (Bc (vs:=[_,_,_]) ty29) ?_
 refine Dr 6 C (Ai C)<|Ds1 0<|Se C (Aj c_ C C Rules_ok) ?_
 rintro _ _ ⟨_,_,⟨aa,rfl,rfl⟩,rfl,rfl⟩
 refine ⟨Bg,?_⟩
 refine Ds1 3<|Sr C (Runs.lookupK (i:=0) Ec Ci C C C mm C) Bg ?_
 refine Ds1 7<|Se C (Cx c_ C C C Rule1_ok) ?_
 rintro _ _ ⟨_,_,⟨rfl,rfl⟩,rfl,rfl⟩
 refine ⟨Bg,?_⟩
 refine Dr 8 C (Bf C)<|Dz<|Ah<|Ap (S3 7 3 2)<|Ad<|Ga C<|Ac<|Ar<|Ad<|Gf fld35_1 C<|Gl ty33 ?_
 refine Gr (Bk A2 C)<|Gm C<|Ac<|A5<|B1 (σ:=Nat×(Option Addr)×Nat×(List Ev)) (λs=>([(2,e7 nw),(7,.func (.func 191) #[] #[]),(8,.slice s.2.1 s.2.2.2.length s.2.2.1),(20,.slice Z xs.length M),(21,e7 ((xs.length:Nat):Int)),(22,e7 ((s.1:Nat):Int))]:Env)) (λs=>vk 54 s.2.1 s.2.2.1 s.2.2.2::mp aa [({key:=e7 1,val:= .func (.func 190) #[] #[],born:=0}:MapEntry),({key:=e7 2,val:= .func (.func 192) #[] #[],born:=1}:MapEntry),({key:=e7 3,val:= .func (.func 194) #[] #[],born:=2}:MapEntry)] 3::e8 b2 [e7 1,e7 wd,e7 mo] 29::e8 b1 [e7 nd,.slice Z xs.length M] 35::I) (λs=>(s.1<=xs.length)/\(s.2.2.2=((xs.take s.1).filter λx=> !(λ_:Lk=>true) x).map (cutEv nw))) (λs=>xs.length - s.1) (0,none,0,[]) (show ((0:Nat)<=xs.length)/\(([]:List Ev)=((xs.take (0:Nat)).filter λx=> !(λ_:Lk=>true) x).map (cutEv nw)) from ⟨om,rfl⟩) (cx2<|Aa (C8 C<|by first|rfl|simp)<|cx2<|Aa Cd Bp) (show Fit κ _ (vk 54 none 0 ([])::mp aa [({key:=e7 1,val:= .func (.func 190) #[] #[],born:=0}:MapEntry),({key:=e7 2,val:= .func (.func 192) #[] #[],born:=1}:MapEntry),({key:=e7 3,val:= .func (.func 194) #[] #[],born:=2}:MapEntry)] 3::e8 b2 [e7 1,e7 wd,e7 mo] 29::e8 b1 [e7 nd,.slice Z xs.length M] 35::I) from (Cf _ _)) ?_
 rintro ⟨k,a,c,out⟩ hp
 dsimp only at hp ⊢
 obtain ⟨hk,ho⟩:=hp
 have ad:out.length<=xs.length:=by rw [ho,List.length_map];refine Nat.le_trans (List.length_filter_le _ _) ?_;simp only [List.length_take];omega
 refine Ad<|Gr (A9 C C)<|Ac<|Ar<|A7 C (λab=>?_)<|λab=>?_
 ·refine Aw (Ah<|Ar<|A5<|Ad<|Gr (A3 (α:=Lk) (xs:=xs) A2 ty82 C C (A8 hl) om om)<|Gr (Bv (α:=Lk) (xs:=xs) ty82 C (A8 hl) om om)<|Ge1 (A4 ty82 C) λb4=>Ge0 (Es6_6 ty82) ?_)
  refine Ac<|Ad<|Gm C<|Gl6 ty82 ?_
  refine Gc0 (Cx c_ C C C<|All1_ok<|e_ xs k) ?_
  exact Gr (Cn C)<|Ac<|Ap (S8 29 10 2 7 8 20 21 22)<|Dg C<|Aw<|Am<|Ah<|Ay<|Gr (Rad C C)<|Gm C<|Bj<|Cb ((k+1),(a),(c),(out))<|by dsimp only;exact ⟨om,(by first|(rw [gone_yes (P:=(λ_:Lk=>true)) om (decide_eq_false c29),←ho];done)|(rw [gone_yes (P:=(λ_:Lk=>true)) om (decide_eq_false c29),←ho];rfl)|(rw [gone_no (P:=(λ_:Lk=>true)) om (decide_eq_true<|Classical.not_not.1 c29),←ho])|(rw [gone_no (P:=(λ_:Lk=>true)) om rfl,←ho]))⟩
 refine Bt<|Aq<|Aq<|Bb<|Ah<|Ad<|Gm C<|Ga C<|Ac<|Az ?_
 have hE:out=(goneL 1 wd mo nw xs):=by rw [ho,show List.take k xs=xs from List.take_of_length_le om];unfold goneL;rw [filt_not (P:=(λ_:Lk=>true)) (inW_all rfl)]
 subst hE
 exact A1 C C (vk 54 a c (goneL 1 wd mo nw xs)::I) Bg ⟨a,c,rfl,rfl⟩
theorem Gone2_ok{M:Option Addr}(hl:Sl κ I (.slice M xs.length c0) xs)(aj:xs.length<=1000000)(hA:askE nd xs 2 wd mo nw=0):eu Tryz.prog κ 153 [.agg #[e7 nd,.slice M xs.length c0],.agg #[e7 2,e7 wd,e7 mo],e7 nw] I (λr J=>∃a c,r = .slice a (goneL 2 wd mo nw xs).length c/\J=vk 54 a c (goneL 2 wd mo nw xs)::I):=by
 refine Ce3 Tryz.func153 C C ?_
 refine Ad<|Ge1 (Bd (cs:=[_,_]) C C C) λb1=>Ge1 (Bd (cs:=[_,_,_]) C C C) λb2=>Ga C<|Ac<|Ar<|Bs mixed<|Cc (e8 b2 [e7 2,e7 wd,e7 mo] 29::e8 b1 [e7 nd,.slice M xs.length c0] 35::I) 9<|Dr 1 C (Ab fld29_0 C)<|Dr 2 C (A0 ef) ?_
 refine Dr 4 C (Bc (vs:=[_,_]) ty35) ?_
 refine Dr 5 C (Bc (vs:=[_,_,_]) ty29) ?_
 refine Dr 6 C (Ai C)<|Ds1 0<|Se C (Aj c_ C C Rules_ok) ?_
 rintro _ _ ⟨_,_,⟨aa,rfl,rfl⟩,rfl,rfl⟩
 refine ⟨Bg,?_⟩
 refine Ds1 3<|Sr C (Runs.lookupK (i:=1) Ec Ci C C C mm C) Bg ?_
 refine Ds1 7<|Sc2 C (Cx c_ C C C Rule2_ok) λb4 b5=>?_
 refine Dr 8 C (Bf C)<|Dz<|Ah<|Ap (S3 7 3 2)<|Ad<|Ga C<|Ac<|Ar<|Ad<|Gf fld35_1 C<|Gl ty33 ?_
 refine Gr (Bk A2 C)<|Gm C<|Ac<|A5<|B1 (σ:=Nat×(Option Addr)×Nat×(List Ev)) (λs=>([(2,e7 nw),(7,.func (.func 193) #[] #[(pt b4),pt b5]),(8,.slice s.2.1 s.2.2.2.length s.2.2.1),(20,.slice M xs.length c0),(21,e7 ((xs.length:Nat):Int)),(22,e7 ((s.1:Nat):Int))]:Env)) (λs=>vk 54 s.2.1 s.2.2.1 s.2.2.2::e8 b4 [e7 nw] 3::e8 b5 [e7 2,e7 wd,e7 mo] 29::mp aa [({key:=e7 1,val:= .func (.func 190) #[] #[],born:=0}:MapEntry),({key:=e7 2,val:= .func (.func 192) #[] #[],born:=1}:MapEntry),({key:=e7 3,val:= .func (.func 194) #[] #[],born:=2}:MapEntry)] 3::e8 b2 [e7 2,e7 wd,e7 mo] 29::e8 b1 [e7 nd,.slice M xs.length c0] 35::I) (λs=>(s.1<=xs.length)/\(s.2.2.2=((xs.take s.1).filter λx=> !(λx:Lk=>decide<|IntKind.i64.wrap (nw - x.tm)<wd) x).map (cutEv nw))) (λs=>xs.length - s.1) (0,none,0,[]) (show ((0:Nat)<=xs.length)/\(([]:List Ev)=((xs.take (0:Nat)).filter λx=> !(λx:Lk=>decide<|IntKind.i64.wrap (nw - x.tm)<wd) x).map (cutEv nw)) from ⟨om,rfl⟩) (cx2<|Aa (C8 C<|by first|rfl|simp)<|cx2<|Aa Cd Bp) (show Fit κ _ (vk 54 none 0 ([])::e8 b4 [e7 nw] 3::e8 b5 [e7 2,e7 wd,e7 mo] 29::mp aa [({key:=e7 1,val:= .func (.func 190) #[] #[],born:=0}:MapEntry),({key:=e7 2,val:= .func (.func 192) #[] #[],born:=1}:MapEntry),({key:=e7 3,val:= .func (.func 194) #[] #[],born:=2}:MapEntry)] 3::e8 b2 [e7 2,e7 wd,e7 mo] 29::e8 b1 [e7 nd,.slice M xs.length c0] 35::I) from (Cf _ _)) ?_
 rintro ⟨k,a,c,out⟩ hp
 dsimp only at hp ⊢
 obtain ⟨hk,ho⟩:=hp
 have ai:out.length<=xs.length:=by rw [ho,List.length_map];refine Nat.le_trans (List.length_filter_le _ _) ?_;simp only [List.length_take];omega
 refine Ad<|Gr (A9 C C)<|Ac<|Ar<|A7 C (λae=>?_)<|λae=>?_
 ·refine Aw (Ah<|Ar<|A5<|Ad<|Gr (A3 (α:=Lk) (xs:=xs) A2 ty82 C C (A8 hl) om om)<|Gr (Bv (α:=Lk) (xs:=xs) ty82 C (A8 hl) om om)<|Ge1 (A4 ty82 C) λb6=>Ge0 (Es6_6 ty82) ?_)
  refine Ac<|Ad<|Gm C<|Gl6 ty82 ?_
  refine Gc0 (Cx c_ C C C<|Age1_ok (D8 mm) (D8 mm)<|e_ xs k) ?_
  refine Gr (Dc C)<|Ac<|Ap (S8 29 10 2 7 8 20 21 22)<|A7 C (λZ=>?_)<|λZ=>?_
  ·refine Ay (Gm C<|Gl6 ty82 ?_)
   refine Gm C<|G.e (Aj c_ C C<|Gone_ok (e_ xs k) nw) ?_
   rintro _ _ ⟨_,_,⟨rfl,rfl⟩,rfl,rfl⟩
   refine Ge1 (Ce (α:=Ev) (cs:=[e7 2,e7 nw,e7<|(e_ xs k).u,e7<|(e_ xs k).v,e7 0,e7 0,e7 0]) (xs:=[⟨2,nw,(e_ xs k).u,(e_ xs k).v,0,0,0⟩]) Al ty54 C C dc dc C kr C C) λah=>?_
   refine Ge2 (B3 (α:=Ev) (e:=54) (xs:=out) (ys:=([⟨2,nw,(e_ xs k).u,(e_ xs k).v,0,0,0⟩]:List Ev)) Al ty54 C C C mm Bi lcn dc C<|λ_ _=>am) λab ad=>?_
   exact Ga C<|Bj<|Am<|Ah<|Ap (S6 8 2 7 20 21 22)<|Ay<|Gr (Rad C C)<|Gm C<|Bj<|Cb ((k+1),(ab),(ad),(out++([⟨2,nw,(e_ xs k).u,(e_ xs k).v,0,0,0⟩]:List Ev)))<|by dsimp only;exact ⟨om,(by first|(rw [gone_yes (P:=(λx:Lk=>decide<|IntKind.i64.wrap (nw - x.tm)<wd)) om (decide_eq_false Z),←ho];done)|(rw [gone_yes (P:=(λx:Lk=>decide<|IntKind.i64.wrap (nw - x.tm)<wd)) om (decide_eq_false Z),←ho];rfl)|(rw [gone_no (P:=(λx:Lk=>decide<|IntKind.i64.wrap (nw - x.tm)<wd)) om (decide_eq_true<|Classical.not_not.1 Z),←ho])|(rw [gone_no (P:=(λx:Lk=>decide<|IntKind.i64.wrap (nw - x.tm)<wd)) om rfl,←ho]))⟩
  exact Aw<|Am<|Ah<|Ay<|Gr (Rad C C)<|Gm C<|Bj<|Cb ((k+1),(a),(c),(out))<|by dsimp only;exact ⟨om,(by first|(rw [gone_yes (P:=(λx:Lk=>decide<|IntKind.i64.wrap (nw - x.tm)<wd)) om (decide_eq_false Z),←ho];done)|(rw [gone_yes (P:=(λx:Lk=>decide<|IntKind.i64.wrap (nw - x.tm)<wd)) om (decide_eq_false Z),←ho];rfl)|(rw [gone_no (P:=(λx:Lk=>decide<|IntKind.i64.wrap (nw - x.tm)<wd)) om (decide_eq_true<|Classical.not_not.1 Z),←ho])|(rw [gone_no (P:=(λx:Lk=>decide<|IntKind.i64.wrap (nw - x.tm)<wd)) om rfl,←ho]))⟩
 refine Bt<|Aq<|Aq<|Bb<|Ah<|Ad<|Gm C<|Ga C<|Ac<|Az ?_
 have hE:out=(goneL 2 wd mo nw xs):=by rw [ho,show List.take k xs=xs from List.take_of_length_le om];unfold goneL;rw [filt_not (P:=(λx:Lk=>decide<|IntKind.i64.wrap (nw - x.tm)<wd)) (inW_age (askE_ok hA) rfl)]
 subst hE
 exact A1 C C (vk 54 a c (goneL 2 wd mo nw xs)::I) Bg ⟨a,c,rfl,rfl⟩
theorem Gone3_ok(hl:Sl κ I (.slice a0 xs.length c0) xs)(ap:xs.length<=1000000)(hA:askE nd xs 3 wd mo nw=0):eu Tryz.prog κ 153 [.agg #[e7 nd,.slice a0 xs.length c0],.agg #[e7 3,e7 wd,e7 mo],e7 nw] I (λr J=>∃a c,r = .slice a (goneL 3 wd mo nw xs).length c/\J=vk 54 a c (goneL 3 wd mo nw xs)::I):=by
 refine Ce3 Tryz.func153 C C ?_
 refine Ad<|Ge1 (Bd (cs:=[_,_]) C C C) λb1=>Ge1 (Bd (cs:=[_,_,_]) C C C) λb2=>Ga C<|Ac<|Ar<|Bs mixed<|Cc (e8 b2 [e7 3,e7 wd,e7 mo] 29::e8 b1 [e7 nd,.slice a0 xs.length c0] 35::I) 9<|Dr 1 C (Ab fld29_0 C)<|Dr 2 C (A0 ef) ?_
 refine Dr 4 C (Bc (vs:=[_,_]) ty35) ?_
 refine Dr 5 C (Bc (vs:=[_,_,_]) ty29) ?_
 refine Dr 6 C (Ai C)<|Ds1 0<|Se C (Aj c_ C C Rules_ok) ?_
 rintro _ _ ⟨_,_,⟨ai,rfl,rfl⟩,rfl,rfl⟩
 refine ⟨Bg,?_⟩
 refine Ds1 3<|Sr C (Runs.lookupK (i:=2) Ec Ci C C C mm C) Bg ?_
 refine Ds1 7<|Se C (Cx c_ C C C<|Rule3_ok (A8 hl) ((askE_ok hA).most C).1 om) ?_
 rintro _ _ ⟨_,_,⟨b4,ab,ad,Z,M,rfl,ae,rfl⟩,rfl,rfl⟩
 refine ⟨Bg,?_⟩
 refine Dr 8 C (Bf C)<|Dz<|Ah<|Ap (S3 7 3 2)<|Ad<|Ga C<|Ac<|Ar<|Ad<|Gf fld35_1 C<|Gl ty33 ?_
 refine Gr (Bk A2 C)<|Gm C<|Ac<|A5<|B1 (σ:=Nat×(Option Addr)×Nat×(List Ev)) (λs=>([(2,e7 nw),(7,.func (.func 196) #[] #[(pt b4)]),(8,.slice s.2.1 s.2.2.2.length s.2.2.1),(20,.slice a0 xs.length c0),(21,e7 ((xs.length:Nat):Int)),(22,e7 ((s.1:Nat):Int))]:Env)) (λs=>vk 54 s.2.1 s.2.2.1 s.2.2.2::e8 b4 [.slice ab (List.take M Z).length ad] 33::vc 82 (.slice ab xs.length ad) (Z)::mp ai [({key:=e7 1,val:= .func (.func 190) #[] #[],born:=0}:MapEntry),({key:=e7 2,val:= .func (.func 192) #[] #[],born:=1}:MapEntry),({key:=e7 3,val:= .func (.func 194) #[] #[],born:=2}:MapEntry)] 3::e8 b2 [e7 3,e7 wd,e7 mo] 29::e8 b1 [e7 nd,.slice a0 xs.length c0] 35::I) (λs=>(s.1<=xs.length)/\(s.2.2.2=((xs.take s.1).filter λx=> !(λx:Lk=>decide<|x∈List.take M Z) x).map (cutEv nw))) (λs=>xs.length - s.1) (0,none,0,[]) (show ((0:Nat)<=xs.length)/\(([]:List Ev)=((xs.take (0:Nat)).filter λx=> !(λx:Lk=>decide<|x∈List.take M Z) x).map (cutEv nw)) from ⟨om,rfl⟩) (cx2<|Aa (C8 C<|by first|rfl|simp)<|cx2<|Aa Cd Bp) (show Fit κ _ (vk 54 none 0 ([])::e8 b4 [.slice ab (List.take M Z).length ad] 33::vc 82 (.slice ab xs.length ad) (Z)::mp ai [({key:=e7 1,val:= .func (.func 190) #[] #[],born:=0}:MapEntry),({key:=e7 2,val:= .func (.func 192) #[] #[],born:=1}:MapEntry),({key:=e7 3,val:= .func (.func 194) #[] #[],born:=2}:MapEntry)] 3::e8 b2 [e7 3,e7 wd,e7 mo] 29::e8 b1 [e7 nd,.slice a0 xs.length c0] 35::I) from (Cf _ _)) ?_
 rintro ⟨k,a,c,out⟩ hp
 dsimp only at hp ⊢
 obtain ⟨hk,ho⟩:=hp
 have ao:out.length<=xs.length:=by rw [ho,List.length_map];refine Nat.le_trans (List.length_filter_le _ _) ?_;simp only [List.length_take];omega
 refine Ad<|Gr (A9 C C)<|Ac<|Ar<|A7 C (λak=>?_)<|λak=>?_
 ·refine Aw (Ah<|Ar<|A5<|Ad<|Gr (A3 (α:=Lk) (xs:=xs) A2 ty82 C C (A8 hl) om om)<|Gr (Bv (α:=Lk) (xs:=xs) ty82 C (A8 hl) om om)<|Ge1 (A4 ty82 C) λb9=>Ge0 (Es6_6 ty82) ?_)
  refine Ac<|Ad<|Gm C<|Gl6 ty82 ?_
  refine Gc0 (Cx c_ C C C<|Last1_ok (D8 mm) (Sl.take Bi om)<|e_ xs k) ?_
  refine Gr (Dc C)<|Ac<|Ap (S8 29 10 2 7 8 20 21 22)<|A7 C (λaa=>?_)<|λaa=>?_
  ·refine Ay (Gm C<|Gl6 ty82 ?_)
   refine Gm C<|G.e (Aj c_ C C<|Gone_ok (e_ xs k) nw) ?_
   rintro _ _ ⟨_,_,⟨rfl,rfl⟩,rfl,rfl⟩
   refine Ge1 (Ce (α:=Ev) (cs:=[e7 2,e7 nw,e7<|(e_ xs k).u,e7<|(e_ xs k).v,e7 0,e7 0,e7 0]) (xs:=[⟨2,nw,(e_ xs k).u,(e_ xs k).v,0,0,0⟩]) Al ty54 C C dc dc C kr C C) λan=>?_
   refine Ge2 (B3 (α:=Ev) (e:=54) (xs:=out) (ys:=([⟨2,nw,(e_ xs k).u,(e_ xs k).v,0,0,0⟩]:List Ev)) Al ty54 C C C mm Bi lcn dc C<|λ_ _=>am) λaj ah=>?_
   exact Ga C<|Bj<|Am<|Ah<|Ap (S6 8 2 7 20 21 22)<|Ay<|Gr (Rad C C)<|Gm C<|Bj<|Cb ((k+1),(aj),(ah),(out++([⟨2,nw,(e_ xs k).u,(e_ xs k).v,0,0,0⟩]:List Ev)))<|by dsimp only;exact ⟨om,(by first|(rw [gone_yes (P:=(λx:Lk=>decide<|x∈List.take M Z)) om (decide_eq_false aa),←ho];done)|(rw [gone_yes (P:=(λx:Lk=>decide<|x∈List.take M Z)) om (decide_eq_false aa),←ho];rfl)|(rw [gone_no (P:=(λx:Lk=>decide<|x∈List.take M Z)) om (decide_eq_true<|Classical.not_not.1 aa),←ho])|(rw [gone_no (P:=(λx:Lk=>decide<|x∈List.take M Z)) om rfl,←ho]))⟩
  exact Aw<|Am<|Ah<|Ay<|Gr (Rad C C)<|Gm C<|Bj<|Cb ((k+1),(a),(c),(out))<|by dsimp only;exact ⟨om,(by first|(rw [gone_yes (P:=(λx:Lk=>decide<|x∈List.take M Z)) om (decide_eq_false aa),←ho];done)|(rw [gone_yes (P:=(λx:Lk=>decide<|x∈List.take M Z)) om (decide_eq_false aa),←ho];rfl)|(rw [gone_no (P:=(λx:Lk=>decide<|x∈List.take M Z)) om (decide_eq_true<|Classical.not_not.1 aa),←ho])|(rw [gone_no (P:=(λx:Lk=>decide<|x∈List.take M Z)) om rfl,←ho]))⟩
 refine Bt<|Aq<|Aq<|Bb<|Ah<|Ad<|Gm C<|Ga C<|Ac<|Az ?_
 have hE:out=(goneL 3 wd mo nw xs):=by rw [ho,show List.take k xs=xs from List.take_of_length_le om];unfold goneL;rw [filt_not (P:=(λx:Lk=>decide<|x∈List.take M Z)) (inW_last (askE_ok hA) rfl ae)]
 subst hE
 exact A1 C C (vk 54 a c (goneL 3 wd mo nw xs)::I) Bg ⟨a,c,rfl,rfl⟩
theorem GoneP_ok(hl:Sl κ I (.slice a0 xs.length c0) xs)(Z:xs.length<=1000000)(M:askE nd xs kd wd mo nw=0):eu Tryz.prog κ 153 [.agg #[e7 nd,.slice a0 xs.length c0],.agg #[e7 kd,e7 wd,e7 mo],e7 nw] I λr J=>∃a c,r = .slice a (goneL kd wd mo nw xs).length c/\J=vk 54 a c (goneL kd wd mo nw xs)::I:=by
 have hk:=(askE_ok M).kind
 rcases (by omega:kd=1\/kd=2\/kd=3) with rfl|rfl|rfl
 ·exact Gone1_ok hl Z M
 ·exact Gone2_ok hl Z M
 exact Gone3_ok hl Z M
variable {κ:Ctx}{I:List Item}
theorem Expired_ok(hl:Sl κ I (.slice a0 xs.length c0) xs)(ab:xs.length<=1000000):eu Tryz.prog κ 126 [.agg #[e7 nd,.slice a0 xs.length c0],.agg #[e7 kd,e7 wd,e7 mo],e7 nw] I (λr J=>(askE nd xs kd wd mo nw≠0/\r = .tuple #[.slice none 0 0,e7 (askE nd xs kd wd mo nw)]/\I=J)\/(∃a c,askE nd xs kd wd mo nw=0/\r = .tuple #[.slice a (goneL kd wd mo nw xs).length c,e7 0]/\J=vk 54 a c (goneL kd wd mo nw xs)::I)):=by
 refine Ce3 Tryz.func126 C C ?_
 refine Ad<|Ge1 (Bd (cs:=[_,_]) C C C) λb1=>Ge1 (Bd (cs:=[_,_,_]) C C C) λb2=>Ga C<|Ga C<|Ac<|Ar<|Ad<|Gl2 ty35 ?_
 refine Gl3 ty29 ?_
 refine Gm C<|G.e (Aj c_ C C<|Asked_ok (nd:=nd) (kd:=kd) (wd:=wd) (mo:=mo) (nw:=nw)<|A8 hl) ?_
 rintro _ _ ⟨_,_,⟨rfl,rfl⟩,rfl,rfl⟩
 refine Ga C<|Ac<|Ad<|Gm C<|Gr (Be C C)<|Ac<|Ap (S5 14 8 4 3 2)<|A7 C (λZ=>?_)<|λZ=>?_
 ·exact Ad<|Gm C<|Ga C<|Ga C<|Ac<|Az<|Ao<|C2 C C C I Ax<|.inl ⟨Z,rfl,rfl⟩
 refine Aw<|Ah<|Ad<|Gl2 ty35 ?_
 refine Gl3 ty29 ?_
 refine Gm C<|Gc2 (Aj c_ C C<|GoneP_ok (nd:=nd) (A8 hl) om<|Classical.not_not.1 Z) λaa M=>?_
 exact Ga C<|Ga C<|Ac<|Az<|C2 C C C (vk 54 aa M (goneL kd wd mo nw xs)::I) Bg<|.inr ⟨aa,M,Classical.not_not.1 Z,rfl,rfl⟩
theorem Expired7_ok(hl:Sl κ I (.slice a0 xs.length c0) xs)(ai:xs.length<=1000000):eu Tryz.prog κ 72 [.agg #[e7 nd,.slice a0 xs.length c0],.agg #[e7 kd,e7 wd,e7 mo],e7 nw] I (λr J=>(askE nd xs kd wd mo nw≠0/\r = .tuple #[.slice none 0 0,e7 (askE nd xs kd wd mo nw)]/\I=J)\/(∃a c,askE nd xs kd wd mo nw=0/\r = .tuple #[.slice a (goneL kd wd mo nw xs).length c,e7 0]/\J=vk 54 a c (goneL kd wd mo nw xs)::I)):=by
 refine Ce3 Tryz.func72 C C ?_
 refine Ad<|Ge1 (Bd (cs:=[_,_]) C C C) λb1=>Ge1 (Bd (cs:=[_,_,_]) C C C) λb2=>Ga C<|Ga C<|Ac<|Ar<|Ad<|Gl2 ty35 ?_
 refine Gl3 ty29 ?_
 refine Gm C<|Gc0 (Aj c_ C C<|Wrong_ok (nd:=nd) (kd:=kd) (wd:=wd) (mo:=mo) (nw:=nw)<|A8 hl) ?_
 refine Ga C<|Ac<|Ad<|Gm C<|Gr (Be C C)<|Ac<|Ap (S5 17 8 4 3 2)<|A7 C (λM=>?_)<|λM=>?_
 ·exact Ad<|Gm C<|Ga C<|Ga C<|Ac<|Az<|Ao<|C2 C C C I Ax<|.inl ⟨M,rfl,rfl⟩
 refine Aw<|Ah<|Ad<|Ga C<|Ac<|Ar<|Ad<|Gf fld35_1 C<|Gl ty33 ?_
 refine Gr (Bk A2 C)<|Gm C<|Ac<|A5<|B1 (σ:=Nat×(Option Addr)×Nat×(List Ev)) (λs=>([(2,e7 nw),(3,pt b1),(4,pt b2),(9,.slice s.2.1 s.2.2.2.length s.2.2.1),(20,.slice a0 xs.length c0),(21,e7 ((xs.length:Nat):Int)),(22,e7 ((s.1:Nat):Int))]:Env)) (λs=>vk 54 s.2.1 s.2.2.1 s.2.2.2::e8 b2 [e7 kd,e7 wd,e7 mo] 29::e8 b1 [e7 nd,.slice a0 xs.length c0] 35::I) (λs=>(s.1<=xs.length)/\(s.2.2.2=((xs.take s.1).filter λx=> !(inW kd wd mo nw xs) x).map (cutEv nw))) (λs=>xs.length - s.1) (0,none,0,[]) (show ((0:Nat)<=xs.length)/\(([]:List Ev)=((xs.take (0:Nat)).filter λx=> !(inW kd wd mo nw xs) x).map (cutEv nw)) from ⟨om,rfl⟩) (cx2<|Aa C<|Aa (C8 C<|by first|rfl|simp)<|cx2<|Aa Cd Bp) (show Fit κ _ (vk 54 none 0 ([])::e8 b2 [e7 kd,e7 wd,e7 mo] 29::e8 b1 [e7 nd,.slice a0 xs.length c0] 35::I) from (Cf _ _)) ?_
 rintro ⟨k,a,c,out⟩ hp
 dsimp only at hp ⊢
 obtain ⟨hk,ho⟩:=hp
 have ah:out.length<=xs.length:=by rw [ho,List.length_map];refine Nat.le_trans (List.length_filter_le _ _) ?_;simp only [List.length_take];omega
 refine Ad<|Gr (A9 C C)<|Ac<|Ar<|A7 C (λab=>?_)<|λab=>?_
 ·refine Aw (Ah<|Ar<|A5<|Ad<|Gm C<|Gr (A3 (α:=Lk) (xs:=xs) A2 ty82 C C (A8 hl) om om)<|Gr (Bv (α:=Lk) (xs:=xs) ty82 C (A8 hl) om om)<|Ge1 (A4 ty82 C) λb3=>Ga C<|Ge0 (Es6_6 ty82) ?_)
  refine Ac<|Ad<|Gl2 ty35 ?_
  refine Gl3 ty29 ?_
  refine Gm C<|Gm C<|Gc0 (Aj c_ C C<|In7_ok (nd:=nd) (A8 hl) (i:=k) om<|askE_ok<|Classical.not_not.1 M) ?_
  refine Gr (Cn C)<|Ac<|Ap (S9 32 11 2 3 4 9 20 21 22)<|D1 C (λZ=>?_)<|λZ=>?_
  ·refine Ay (Gm C<|Gl6 ty82 ?_)
   refine Gm C<|Gc0 (Aj c_ C C<|Cut5_ok (e_ xs k) nw) ?_
   refine Ge1 (Ce (α:=Ev) (cs:=[e7 2,e7 nw,e7<|(e_ xs k).u,e7<|(e_ xs k).v,e7 0,e7 0,e7 0]) (xs:=[⟨2,nw,(e_ xs k).u,(e_ xs k).v,0,0,0⟩]) Al ty54 C C dc dc C kr C C) λae=>?_
   refine Ge2 (B3 (α:=Ev) (e:=54) (xs:=out) (ys:=([⟨2,nw,(e_ xs k).u,(e_ xs k).v,0,0,0⟩]:List Ev)) Al ty54 C C C mm Bi lcn dc C<|λ_ _=>am) λaa ad=>?_
   exact Ga C<|Bj<|Am<|Ah<|Ap (S7 9 2 3 4 20 21 22)<|Ay<|Gr (Rad C C)<|Gm C<|Bj<|Cb ((k+1),(aa),(ad),(out++([⟨2,nw,(e_ xs k).u,(e_ xs k).v,0,0,0⟩]:List Ev)))<|by dsimp only;exact ⟨om,(by first|(rw [gone_yes (P:=(inW kd wd mo nw xs)) om (by simpa using Z),←ho];done)|(rw [gone_yes (P:=(inW kd wd mo nw xs)) om (by simpa using Z),←ho];rfl)|(rw [gone_no (P:=(inW kd wd mo nw xs)) om (by simpa using Z),←ho]))⟩
  exact Aw<|Am<|Ah<|Ay<|Gr (Rad C C)<|Gm C<|Bj<|Cb ((k+1),(a),(c),(out))<|by dsimp only;exact ⟨om,(by first|(rw [gone_yes (P:=(inW kd wd mo nw xs)) om (by simpa using Z),←ho];done)|(rw [gone_yes (P:=(inW kd wd mo nw xs)) om (by simpa using Z),←ho];rfl)|(rw [gone_no (P:=(inW kd wd mo nw xs)) om (by simpa using Z),←ho]))⟩
 refine Bt<|Aq<|Aq<|Bb<|Ah<|Ad<|Gm C<|Ga C<|Ga C<|Ac<|Az ?_
 have hE:out=(goneL kd wd mo nw xs):=by rw [ho,show List.take k xs=xs from List.take_of_length_le om];rfl
 subst hE
 exact C2 C C C (vk 54 a c (goneL kd wd mo nw xs)::I) Bg<|.inr ⟨a,c,Classical.not_not.1 M,rfl,rfl⟩
theorem checkW_wd(h:checkW kd wd mo=0):0<=wd/\wd<=1048576:=by
 unfold checkW at h
 split at h
 ·cases h
 split at h
 ·cases h
 omega
theorem checkS_tm(h:checkS nd xs=0):∀i:Int,0<=i->i<xs.length->0<=(e_ xs i).tm/\(e_ xs i).tm<=1048576:=λi Z M=>badL_tm ((checkS_ok h).2.1 _ (B7 Z M))
def uErr(nd:Int)(xs:List Lk)(kd wd mo:Int):Int:=if checkW kd wd mo≠0 then checkW kd wd mo else checkS nd xs
def untilC(nd:Int)(xs:List Lk)(kd wd mo:Int):Prop:=uErr nd xs kd wd mo=0/\kd=2/\xs≠[]
instance (nd:Int) (xs:List Lk) (kd wd mo:Int):Decidable (untilC nd xs kd wd mo):=by unfold untilC;infer_instance
structure UntilP (nd:Int) (xs:List Lk) (kd wd mo z:Int):Prop where
 yes:untilC nd xs kd wd mo->(∃x∈xs,z=x.tm+wd)/\∀y∈xs,z<=y.tm+wd
 no:¬untilC nd xs kd wd mo->z=0
end Go.Sl
namespace Go.Sl
variable{n nw:Int}
def eh(e:Ev):Lk:=⟨if e.v<e.u then e.v else e.u,if e.u<e.v then e.v else e.u,e.w,e.lb,e.sg,e.tm⟩
def setL(n:Lk):List Lk->List Lk
 |[]=>[n]
 |l::ls=>if Lk.lt n l then n::l::ls else if l.p=n.p then n::ls else l::setL n ls
def hitE(e:Ev)(l:Lk):Bool:=if e.kd=2 then decide (l.u=(eh e).u/\l.v=(eh e).v) else decide (l.u=e.u\/l.v=e.u)
def ep(xs:List Lk)(e:Ev):List Lk:=if e.kd=1 then setL (eh e) xs else xs.filter λl=> !hitE e l
def endsE(e:Ev):Prop:=(0<=e.u/\e.u<64)/\(e.kd=3->e.v=0)/\(e.kd≠3->(0<=e.v/\e.v<64)/\e.u≠e.v)
instance (e:Ev):Decidable (endsE e):=by unfold endsE;infer_instance
def checkE(e:Ev):Int:=if e.kd<1\/3<e.kd then 8 else if e.tm<0\/1048576<e.tm then 9 else if ¬endsE e then 6 else if (e.kd=1/\¬rightW e.w e.lb e.sg)\/(e.kd≠1/\(e.w≠0\/e.lb≠0\/e.sg≠0)) then 1 else 0
def fitE(nd:Int)(e:Ev):Int:=if checkE e≠0 then checkE e else if nd<=e.u\/nd<=e.v then 6 else 0
section
variable {e:Ev}{nd:Int}
theorem checkE_eight(h:e.kd<1\/3<e.kd):checkE e=8:=by unfold checkE;rw [if_pos h]
theorem checkE_nine(Z:1<=e.kd/\e.kd<=3)(h:e.tm<0\/1048576<e.tm):checkE e=9:=by unfold checkE;rw [if_neg om,if_pos h]
theorem checkE_six(M:1<=e.kd/\e.kd<=3)(Z:0<=e.tm/\e.tm<=1048576)(h:¬endsE e):checkE e=6:=by unfold checkE;rw [if_neg om,if_neg om,if_pos h]
theorem checkE_one(h1:1<=e.kd/\e.kd<=3)(M:0<=e.tm/\e.tm<=1048576)(Z:endsE e)(h:(e.kd=1/\¬rightW e.w e.lb e.sg)\/(e.kd≠1/\(e.w≠0\/e.lb≠0\/e.sg≠0))):checkE e=1:=by
 unfold checkE;rw [if_neg om,if_neg om,if_neg<|λh=>h Z,if_pos h]
theorem checkE_set(Z:e.kd=1)(h2:0<=e.tm/\e.tm<=1048576)(M:endsE e):checkE e=if rightW e.w e.lb e.sg then 0 else 1:=by
 unfold checkE;rw [if_neg om,if_neg om,if_neg<|λh=>h M]
 by_cases h4:rightW e.w e.lb e.sg
 ·rw [if_pos h4,if_neg];rintro (⟨_,h⟩|⟨h,_⟩)
  ·exact h h4
  exact h Z
 rw [if_neg h4,if_pos<|.inl ⟨Z,h4⟩]
theorem checkE_zero(h1:1<=e.kd/\e.kd<=3)(h2:0<=e.tm/\e.tm<=1048576)(Z:endsE e)(h:e.kd=1->rightW e.w e.lb e.sg)(M:e.kd≠1->e.w=0/\e.lb=0/\e.sg=0):checkE e=0:=by
 unfold checkE;rw [if_neg om,if_neg om,if_neg<|λh=>h Z,if_neg];rintro (⟨a,b⟩|⟨a,b⟩)
 ·exact b<|h a
 have:=M a;omega
end
structure FitOk (nd:Int) (e:Ev):Prop where
 kind:1<=e.kd/\e.kd<=3
 tm:0<=e.tm/\e.tm<=1048576
 ends:endsE e
 right:e.kd=1->rightW e.w e.lb e.sg
 fits:e.u<nd/\e.v<nd
 zero:e.kd≠1->e.w=0/\e.lb=0/\e.sg=0
theorem fitE_ok{nd:Int}{e:Ev}:fitE nd e=0↔FitOk nd e:=by
 constructor
 ·intro h
  unfold fitE checkE at h
  by_cases M:e.kd<1\/3<e.kd
  ·rw [if_pos M] at h;simp at h
  rw [if_neg M] at h
  by_cases Z:e.tm<0\/1048576<e.tm
  ·rw [if_pos Z] at h;simp at h
  rw [if_neg Z] at h
  by_cases h3:¬endsE e
  ·rw [if_pos h3] at h;simp at h
  rw [if_neg h3] at h
  by_cases h4:(e.kd=1/\¬rightW e.w e.lb e.sg)\/(e.kd≠1/\(e.w≠0\/e.lb≠0\/e.sg≠0))
  ·rw [if_pos h4] at h;simp at h
  rw [if_neg h4] at h
  by_cases h5:nd<=e.u\/nd<=e.v
  ·rw [if_neg (by simp),if_pos h5] at h;simp at h
  exact ⟨by omega,by omega,Classical.not_not.1 h3,λhk=>Classical.byContradiction λhr=>h4<|.inl ⟨hk,hr⟩,by omega,λhk=>by omega⟩
 intro h
 have M:=h.kind
 have Z:=h.tm
 have h5:=h.fits
 have hc:checkE e=0:=by
  unfold checkE
  rw [if_neg om,if_neg om,if_neg<|by simpa using h.ends,if_neg ?_]
  rintro (⟨a,b⟩|⟨a,b⟩)
  ·exact b<|h.right a
  have:=h.zero a;omega
 unfold fitE
 rw [if_neg (by simp [hc]),if_neg om]
theorem lk_lt{a b:Lk}:Lk.lt a b↔a.u<b.u\/(a.u=b.u/\a.v<b.v):=Iff.rfl
theorem lk_p{a b:Lk}:a.p=b.p↔a.u=b.u/\a.v=b.v:=by unfold Lk.p;simp
theorem FitOk.lk{nd:Int}{e:Ev}(h:FitOk nd e)(Z:e.kd≠3):0<=(eh e).u/\(eh e).u<(eh e).v/\(eh e).v<nd:=by
 have h1:=h.ends.2.2 Z
 have h2:=h.ends.1
 have M:=h.fits
 unfold eh
 simp only
 refine ⟨?_,?_,?_⟩<;>(repeat' split)<;>omega
theorem FitOk.badL{nd:Int}{e:Ev}(h:FitOk nd e)(Z:e.kd=1):badL nd (eh e)=0:=by
 have h1:=h.lk om
 have M:=h.tm
 exact badL_zero om (h.right Z)<|by show ¬(e.tm<0\/1048576<e.tm);omega
theorem mem_setL{n:Lk}{xs:List Lk}{x:Lk}(h:x∈setL n xs):x=n\/x∈xs:=by
 induction xs with
 |nil=>simp [setL] at h;exact .inl h
 |cons l ls ih=>
  unfold setL at h
  split at h
  ·simpa using h
  split at h
  ·rcases List.mem_cons.1 h with h|h
   ·exact .inl h
   exact .inr<|List.mem_cons_of_mem _ h
  rcases List.mem_cons.1 h with h|h
  ·exact .inr<|by rw [h];exact List.mem_cons_self
  rcases ih h with h|h
  ·exact .inl h
  exact .inr<|List.mem_cons_of_mem _ h
theorem setL_asc{n:Lk}{xs:List Lk}(h:xs.Pairwise Lk.lt):(setL n xs).Pairwise Lk.lt:=by
 induction xs with
 |nil=>simp [setL]
 |cons l ls ih=>
  obtain ⟨Z,M⟩:=List.pairwise_cons.1 h
  unfold setL
  by_cases hl:Lk.lt n l
  ·rw [if_pos hl]
   refine List.pairwise_cons.2 ⟨λx hx=>?_,h⟩
   rcases List.mem_cons.1 hx with rfl|hx
   ·exact hl
   exact Pt.lin.tr _ _ _ hl<|Z x hx
  rw [if_neg hl]
  by_cases he:l.p=n.p
  ·rw [if_pos he]
   refine List.pairwise_cons.2 ⟨λx hx=>?_,M⟩
   have:=Z x hx
   unfold Lk.lt at this ⊢
   rw [←he];exact this
  rw [if_neg he]
  refine List.pairwise_cons.2 ⟨λx hx=>?_,ih M⟩
  rcases mem_setL hx with rfl|hx
  ·rw [lk_lt] at hl ⊢; rw [lk_p] at he;omega
  exact Z x hx
theorem setL_len(n:Lk)(xs:List Lk):(setL n xs).length<=xs.length+1:=by
 induction xs with
 |nil=>simp [setL]
 |cons l ls ih=>
  unfold setL
  split
  ·simp
  split
  ·simp
  simp;omega
theorem stepL_len(xs:List Lk)(e:Ev):(ep xs e).length<=xs.length+1:=by
 unfold ep
 split
 ·exact setL_len _ _
 exact Nat.le_succ_of_le<|List.length_filter_le _ _
theorem scan0_back:∀(xs:List Lk) (q:Lk),(∀x∈xs,badL n x=0)->(q::xs).Pairwise Lk.lt->scanL (badL n) Lk.lt (some q) xs=0
 |[],q,_,_=>rfl
 |p::ps,q,h1,h2=>by
  obtain ⟨a,b⟩:=List.pairwise_cons.1 h2
  simp only [scanL]
  rw [if_neg (by simp [h1 p List.mem_cons_self]),if_pos<|a p List.mem_cons_self]
  exact scan0_back ps p (λx Z=>h1 x<|List.mem_cons_of_mem _ Z) b
theorem checkS_iff{xs:List Lk}:checkS n xs=0↔(0<=n/\n<=64)/\(∀x∈xs,badL n x=0)/\xs.Pairwise Lk.lt:=by
 constructor
 ·exact checkS_ok
 rintro ⟨h1,Z,M⟩
 unfold checkS
 rw [if_neg om]
 cases xs with
 |nil=>rfl
 |cons p ps=>
  simp only [scanL]
  rw [if_neg (by simp [Z p List.mem_cons_self])]
  exact scan0_back ps p (λx hx=>Z x<|List.mem_cons_of_mem _ hx) M
theorem stepL_val{nd:Int}{xs:List Lk}{e:Ev}(h:checkS nd xs=0)(he:FitOk nd e):checkS nd (ep xs e)=0:=by
 obtain ⟨h1,M,Z⟩:=checkS_iff.1 h
 refine checkS_iff.2 ⟨h1,?_⟩
 unfold ep
 by_cases hk:e.kd=1
 ·rw [if_pos hk]
  refine ⟨λx hx=>?_,setL_asc Z⟩
  rcases mem_setL hx with rfl|hx
  ·exact he.badL hk
  exact M x hx
 rw [if_neg hk]
 exact ⟨λx hx=>M x (List.mem_filter.1 hx).1,Z.sublist List.filter_sublist⟩
theorem filter_val{nd:Int}{xs:List Lk}{P:Lk->Bool}(h:checkS nd xs=0):checkS nd (xs.filter P)=0:=by
 obtain ⟨h1,h2,Z⟩:=checkS_iff.1 h
 exact checkS_iff.2 ⟨h1,λx M=>h2 x (List.mem_filter.1 M).1,Z.sublist List.filter_sublist⟩
theorem val_uv{nd:Int}{xs:List Lk}(h:checkS nd xs=0):∀x∈xs,0<=x.u/\x.u<x.v/\x.v<nd:=λx M=>by
 have Z:=(checkS_ok h).2.1 x M
 unfold Sl.badL at Z
 split at Z
 ·cases Z
 omega
theorem cut_hit(nw:Int){z:Lk}(Z:z.u<z.v)(l:Lk):hitE (cutEv nw z) l=decide (l.p=z.p):=by
 unfold hitE eh cutEv
 simp only [if_true]
 rw [if_neg om,if_pos Z,decide_eq_decide,lk_p]
theorem cuts_filter(nw:Int):∀(zs xs:List Lk),(∀z∈zs,z.u<z.v)->(zs.map (cutEv nw)).foldl ep xs=xs.filter λx=>zs.all λz=> !decide (x.p=z.p)
 |[],xs,_=>by simp only [List.map_nil,List.foldl_nil,List.all_nil];exact (List.filter_eq_self.2 λ_ _=>rfl).symm
 |z::zs,xs,h=>by
  have M:=cuts_filter nw zs (xs.filter λl=> !decide (l.p=z.p)) λy Z=>h y (List.mem_cons_of_mem _ Z)
  have hs:ep xs (cutEv nw z)=xs.filter λl=> !decide (l.p=z.p):=by
   unfold ep
   rw [if_neg (by show ¬(2:Int)=1;decide)]
   exact List.filter_congr λl _=>by rw [cut_hit nw (h z List.mem_cons_self)]
  rw [List.map_cons,List.foldl_cons,hs,M,List.filter_filter]
  exact List.filter_congr λx _=>by rw [List.all_cons,Bool.and_comm]
theorem asc_p{xs:List Lk}(h:xs.Pairwise Lk.lt){x y:Lk}(M:x∈xs)(hy:y∈xs)(he:x.p=y.p):x=y:=by
 induction xs with
 |nil=>cases M
 |cons l ls ih=>
  obtain ⟨h1,h2⟩:=List.pairwise_cons.1 h
  have Z:∀z∈ls,l.p≠z.p:=λz hz e=>by
   have:=h1 z hz
   unfold Lk.lt at this
   rw [e] at this
   exact Pt.lin.irr _ this
  rcases List.mem_cons.1 M with e1|e1<;>rcases List.mem_cons.1 hy with e2|e2
  ·rw [e1,e2]
  ·exact absurd (e1▸he)<|Z y e2
  ·exact absurd (e2▸he.symm)<|Z x e1
  exact ih h2 e1 e2
theorem gone_steps{nd kd wd mo:Int}{xs:List Lk}(h:checkS nd xs=0):(goneL kd wd mo nw xs).foldl ep xs=xs.filter (inW kd wd mo nw xs):=by
 unfold goneL
 rw [cuts_filter nw _ _ λz M=>(val_uv h z (List.mem_filter.1 M).1).2.1]
 refine List.filter_congr λx hx=>?_
 cases hp:inW kd wd mo nw xs x
 ·rw [Bool.eq_false_iff]
  intro ha
  have:=List.all_eq_true.1 ha x (List.mem_filter.2 ⟨hx,by rw [hp];rfl⟩)
  simp at this
 rw [List.all_eq_true]
 intro z M
 obtain ⟨aa,Z⟩:=List.mem_filter.1 M
 rw [Bool.not_eq_true',decide_eq_false_iff_not]
 intro he
 have:=asc_p (checkS_ok h).2.2 hx aa he
 subst this
 rw [hp] at Z
 cases Z
theorem gone_len(kd wd mo nw:Int)(xs:List Lk):(goneL kd wd mo nw xs).length+(xs.filter (inW kd wd mo nw xs)).length=xs.length:=by
 unfold goneL
 rw [List.length_map]
 generalize inW kd wd mo nw xs=P
 induction xs with
 |nil=>rfl
 |cons x xs ih=>simp only [List.filter_cons];cases P x<;>simp<;>omega
theorem gone_fit{nd kd wd mo:Int}{xs:List Lk}(h:checkS nd xs=0)(ht:0<=nw/\nw<=1048576):∀e∈goneL kd wd mo nw xs,FitOk nd e:=λe M=>by
 unfold goneL at M
 obtain ⟨x,hx,rfl⟩:=List.mem_map.1 M
 have h1:=val_uv h x (List.mem_filter.1 hx).1
 have h2:=(checkS_ok h).1
 exact ⟨by show (1:Int)<=2/\(2:Int)<=3;omega,ht,⟨by show 0<=x.u/\x.u<64;omega,λZ=>absurd Z (by show ¬(2:Int)=3;decide),λ_=>by show (0<=x.v/\x.v<64)/\x.u≠x.v;omega⟩,
  λZ=>absurd Z (by show ¬(2:Int)=1;decide),by show x.u<nd/\x.v<nd;omega,λ_=>⟨rfl,rfl,rfl⟩⟩
def minT:List Lk->Int
 |[]=>0
 |x::xs=>xs.foldl (λm y=>if y.tm<m then y.tm else m) x.tm
theorem minT_fold:∀(xs:List Lk) (m:Int),xs.foldl (λm y=>if y.tm<m then y.tm else m) m<=m/\(xs.foldl (λm y=>if y.tm<m then y.tm else m) m=m\/∃x∈xs,xs.foldl (λm y=>if y.tm<m then y.tm else m) m=x.tm)/\∀y∈xs,xs.foldl (λm y=>if y.tm<m then y.tm else m) m<=y.tm
 |[],m=>⟨Int.le_refl _,.inl rfl,λy hy=>by cases hy⟩
 |x::xs,m=>by
  rw [List.foldl_cons]
  by_cases hx:x.tm<m
  ·rw [if_pos hx]
   obtain ⟨h1,Z,M⟩:=minT_fold xs x.tm
   refine ⟨by omega,?_,λy hy=>?_⟩
   ·rcases Z with Z|⟨y,hy,Z⟩
    ·exact .inr ⟨x,List.mem_cons_self,Z⟩
    exact .inr ⟨y,List.mem_cons_of_mem _ hy,Z⟩
   rcases List.mem_cons.1 hy with rfl|hy
   ·exact h1
   exact M y hy
  rw [if_neg hx]
  obtain ⟨h1,Z,M⟩:=minT_fold xs m
  refine ⟨h1,?_,λy hy=>?_⟩
  ·rcases Z with Z|⟨y,hy,Z⟩
   ·exact .inl Z
   exact .inr ⟨y,List.mem_cons_of_mem _ hy,Z⟩
  rcases List.mem_cons.1 hy with rfl|hy
  ·omega
  exact M y hy
theorem minT_spec{xs:List Lk}(h:0<xs.length):(∃x∈xs,minT xs=x.tm)/\∀y∈xs,minT xs<=y.tm:=by
 cases xs with
 |nil=>cases h
 |cons x xs=>
  obtain ⟨h1,Z,M⟩:=minT_fold xs x.tm
  refine ⟨?_,λy hy=>?_⟩
  ·rcases Z with Z|⟨y,hy,Z⟩
   ·exact ⟨x,List.mem_cons_self,Z⟩
   exact ⟨y,List.mem_cons_of_mem _ hy,Z⟩
  rcases List.mem_cons.1 hy with rfl|hy
  ·exact h1
  exact M y hy
theorem minT_uniq{xs:List Lk}{wd z:Int}(h:(∃x∈xs,z=x.tm+wd)/\∀y∈xs,z<=y.tm+wd):z=minT xs+wd:=by
 obtain ⟨⟨x,Z,e⟩,h1⟩:=h
 obtain ⟨⟨y,M,e2⟩,h2⟩:=minT_spec (List.length_pos_of_mem Z)
 have:=h1 y M
 have:=h2 x Z
 omega
theorem inW2(wd mo nw:Int)(xs:List Lk)(x:Lk):inW 2 wd mo nw xs x=decide (nw - x.tm<wd):=by unfold inW;rw [if_pos rfl]
def ageX(wd mo:Int)(xs:List Lk):List Lk:=xs.filter (inW 2 wd mo (minT xs+wd) xs)
theorem age_less{wd mo:Int}{xs:List Lk}(h:0<xs.length):(ageX wd mo xs).length<xs.length:=by
 unfold ageX
 obtain ⟨⟨x,Z,e⟩,_⟩:=minT_spec h
 have h1:=gone_len 2 wd mo (minT xs+wd) xs
 have M:0<(goneL 2 wd mo (minT xs+wd) xs).length:=by
  unfold goneL
  rw [List.length_map]
  refine List.length_pos_of_mem (a:=x)<|List.mem_filter.2 ⟨Z,?_⟩
  rw [inW2,decide_eq_false om];rfl
 omega
def ageL(wd mo T:Int)(xs:List Lk)(out:List Ev):List Lk×List Ev:=
 if h:0<xs.length/\minT xs+wd<=T then ageL wd mo T (ageX wd mo xs) (out++goneL 2 wd mo (minT xs+wd) xs) else (xs,out)
termination_by xs.length
decreasing_by exact age_less h.1
theorem ageL_step{wd mo T:Int}{xs:List Lk}{out:List Ev}(h:0<xs.length/\minT xs+wd<=T):ageL wd mo T xs out=ageL wd mo T (xs.filter (inW 2 wd mo (minT xs+wd) xs)) (out++goneL 2 wd mo (minT xs+wd) xs):=by
 rw [ageL,dif_pos h];rfl
theorem ageL_stop{wd mo T:Int}{xs:List Lk}{out:List Ev}(h:¬(0<xs.length/\minT xs+wd<=T)):ageL wd mo T xs out=(xs,out):=by
 rw [ageL,dif_neg h]
def windL(kd wd mo:Int)(b:List Lk×List Ev)(T:Int):List Lk×List Ev:=if kd=3 then (b.1.filter (inW kd wd mo T b.1),b.2++goneL kd wd mo T b.1) else b
def agedL(kd wd mo T:Int)(s:List Lk×List Ev):List Lk×List Ev:=if kd=2 then ageL wd mo T s.1 s.2 else s
def evStep(kd wd mo:Int)(s:List Lk×List Ev)(e:Ev):List Lk×List Ev:=windL kd wd mo (ep (agedL kd wd mo e.tm s).1 e,(agedL kd wd mo e.tm s).2++[e]) e.tm
def slideS(kd wd mo:Int)(es:List Ev):List Lk×List Ev:=es.foldl (evStep kd wd mo) ([],[])
def streamS(nd:Int):Int->List Ev->Int
 |_,[]=>0
 |last,e::es=>if fitE nd e≠0 then fitE nd e else if e.tm<last then 9 else streamS nd e.tm es
def streamE(nd:Int)(es:List Ev):Int:=if nd<0\/64<nd then 1 else if 65536<es.length then 3 else streamS nd 0 es
def slideE(nd kd wd mo:Int)(es:List Ev):Int:=if checkW kd wd mo≠0 then checkW kd wd mo else streamE nd es
def lastT(es:List Ev)(k:Nat):Int:=if k=0 then 0 else (e_ es ((k:Int) - 1)).tm
theorem lastT_succ(es:List Ev)(k:Nat):lastT es (k+1)=(e_ es k).tm:=by
 unfold lastT;rw [if_neg om,show ((k+1:Nat):Int) - 1=(k:Int) by omega]
section
variable {nd:Int}{es:List Ev}{k:Nat}
theorem streamS_step(Z:k<es.length)(h1:fitE nd (e_ es k)=0)(M:¬(e_ es k).tm<lastT es k):streamS nd (lastT es k) (es.drop k)=streamS nd (lastT es (k+1)) (es.drop (k+1)):=by
 rw [Dt es k Z,lastT_succ];simp only [streamS];rw [if_neg (by simp [h1]),if_neg M]
theorem streamS_bad(Z:k<es.length)(M:fitE nd (e_ es k)≠0):streamS nd (lastT es k) (es.drop k)=fitE nd (e_ es k):=by
 rw [Dt es k Z];simp only [streamS];rw [if_pos M]
theorem streamS_late(Z:k<es.length)(h1:fitE nd (e_ es k)=0)(M:(e_ es k).tm<lastT es k):streamS nd (lastT es k) (es.drop k)=9:=by
 rw [Dt es k Z];simp only [streamS];rw [if_neg (by simp [h1]),if_pos M]
theorem streamS_end(Z:es.length<=k):streamS nd (lastT es k) (es.drop k)=0:=by rw [List.drop_eq_nil_of_le Z];rfl
structure StOk (nd:Int) (es:List Ev):Prop where
 nodes:0<=nd/\nd<=64
 len:es.length<=65536
 fit:∀j:Nat,j<es.length->FitOk nd (e_ es j)
 asc:∀j:Nat,j<es.length->lastT es j<=(e_ es j).tm
end
theorem slideS_succ{kd wd mo:Int}{es:List Ev}{k:Nat}(Z:k<es.length):slideS kd wd mo (es.take (k+1))=evStep kd wd mo (slideS kd wd mo (es.take k)) (e_ es k):=by
 unfold slideS;rw [Cj es k Z,List.foldl_append];rfl
theorem steps_succ{xs:List Lk}{es:List Ev}{k:Nat}(Z:k<es.length):(es.take (k+1)).foldl ep xs=ep ((es.take k).foldl ep xs) (e_ es k):=by
 rw [Cj es k Z,List.foldl_append];rfl
theorem steps_len:∀(es:List Ev) (xs:List Lk),(es.foldl ep xs).length<=xs.length+es.length
 |[],xs=>Nat.le_refl _
 |e::es,xs=>by
  have M:=steps_len es (ep xs e)
  have Z:=stepL_len xs e
  rw [List.foldl_cons,List.length_cons];omega
structure SlI (nd kd wd:Int) (last:Int) (xs:List Lk):Prop where
 val:checkS nd xs=0
 tm:∀x∈xs,x.tm<=last
 al:kd=2->∀x∈xs,last<x.tm+wd
section
variable {nd kd wd mo last T:Int}{xs:List Lk}{out:List Ev}
theorem SlI.nil(h:0<=nd/\nd<=64):SlI nd kd wd last []:=⟨checkS_iff.2 ⟨h,λx Z=>(by cases Z),List.Pairwise.nil⟩,λx Z=>(by cases Z),λ_ x Z=>(by cases Z)⟩
theorem SlI.filter(h:SlI nd kd wd last xs)(P:Lk->Bool):SlI nd kd wd last (xs.filter P):=
 ⟨filter_val h.val,λx Z=>h.tm x (List.mem_filter.1 Z).1,λM x Z=>h.al M x (List.mem_filter.1 Z).1⟩
theorem SlI.later(h:SlI nd kd wd last xs)(hT:last<=T)(M:kd=2->¬(0<xs.length/\minT xs+wd<=T)):SlI nd kd wd T xs:=
 ⟨h.val,λx Z=>by have:=h.tm x Z;omega,λh2 x Z=>by
  have h3:=M h2
  have h4:0<xs.length:=List.length_pos_of_mem Z
  have h5:=(minT_spec h4).2 x Z
  omega⟩
theorem SlI.step(h:SlI nd kd wd T xs){e:Ev}(he:FitOk nd e)(ht:e.tm=T)(hw:kd=2->1<=wd):SlI nd kd wd T (ep xs e):=by
 have Z:∀x∈ep xs e,x.tm=T\/x∈xs:=λx hx=>by
  unfold ep at hx
  split at hx
  ·rcases mem_setL hx with rfl|hx
   ·exact .inl ht
   exact .inr hx
  exact .inr (List.mem_filter.1 hx).1
 refine ⟨stepL_val h.val he,λx hx=>?_,λM x hx=>?_⟩
 ·rcases Z x hx with h1|h1
  ·omega
  exact h.tm x h1
 rcases Z x hx with h1|h1
 ·have:=hw M;omega
 exact h.al M x h1
theorem SlI.ask(h:SlI nd kd wd last xs)(M:checkW kd wd mo=0){t:Int}(ht:0<=t/\t<=1048576)(hl:last<=t):askE nd xs kd wd mo t=0:=by
 unfold askE
 rw [if_neg (by simp [M]),if_neg<|by simp [h.val],if_neg]
 rintro (h1|h1|h1)
 ·omega
 ·omega
 obtain ⟨x,Z,h2⟩:=List.any_eq_true.1 h1
 have:=h.tm x Z
 have:=of_decide_eq_true h2
 omega
theorem SlI.first(h:SlI nd kd wd last xs)(Z:kd=2)(h0:0<xs.length):last<minT xs+wd:=by
 obtain ⟨⟨x,M,e⟩,_⟩:=minT_spec h0
 have:=h.al Z x M
 omega
end
end Go.Sl
namespace Go.Sl
theorem Lk.cmp_zero(a b:Lk):Lk.cmp a b=0↔a.p=b.p:=Pt.cmp_zero _ _
theorem setL_app{n:Lk}{ys:List Lk}:∀(xs:List Lk),(∀x∈xs,Lk.lt x n)->setL n (xs++ys)=xs++setL n ys
 |[],_=>rfl
 |x::xs,h=>by
  have Z:=h x List.mem_cons_self
  rw [List.cons_append,List.cons_append]
  conv=>lhs;unfold setL
  rw [if_neg (show ¬Lk.lt n x from λM=>Pt.lin.asymm Z M),if_neg<|λM=>by unfold Lk.lt at Z;rw [M] at Z;exact Pt.lin.irr _ Z,setL_app xs λy hy=>h y<|List.mem_cons_of_mem _ hy]
section
variable {xs:List Lk}{n:Lk}{i:Nat}{q:Bool}
theorem lk_below(h:BFound Lk.cmp xs n i q)(ha:xs.Pairwise Lk.lt):∀x∈xs.take i,Lk.lt x n:=λx M=>by
 obtain ⟨j,hj,rfl⟩:=List.getElem_of_mem M
 rw [List.length_take] at hj
 have aa:=h.le
 have e:(xs.take i)[j]=e_ xs j:=by rw [C7 xs j om];simp
 rw [e]
 have Z:=(Lk.cmp_lt _ _).1 (h.low om)
 rw [show (i:Int) - 1=((i - 1:Nat):Int) by omega] at Z
 by_cases hq:j=i - 1
 ·rw [hq];exact Z
 exact Pt.lin.tr _ _ _ ((pairwise_at xs).1 ha j (i - 1) om om) Z
theorem setL_new(h:BFound Lk.cmp xs n i q)(ha:xs.Pairwise Lk.lt)(hq:q=false):setL n xs=xs.take i++[n]++xs.drop i:=by
 conv=>lhs;rw [←List.take_append_drop i xs]
 rw [setL_app _ (lk_below h ha),List.append_assoc]
 congr 1
 rcases Nat.lt_or_ge i xs.length with hi|hi
 ·have h1:=h.is
  rw [hq] at h1
  have M:=of_decide_eq_false h1.symm
  have Z:=h.high hi
  rw [Lk.cmp_lt] at Z
  rw [Dt xs i hi]
  unfold setL
  rw [Lk.cmp_zero] at M
  have h4:(e_ xs i).p≠n.p:=λe=>M ⟨hi,e⟩
  rw [if_pos,List.singleton_append]
  rcases Pt.lin.tri n.p (e_ xs i).p with h5|h5|h5
  ·exact h5
  ·exact absurd h5.symm h4
  exact absurd h5 Z
 rw [List.drop_eq_nil_of_le hi];rfl
theorem setL_there(h:BFound Lk.cmp xs n i q)(ha:xs.Pairwise Lk.lt)(hq:q=true):i<xs.length/\setL n xs=xs.set i n:=by
 have h1:=h.is
 rw [hq] at h1
 obtain ⟨hi,M⟩:=of_decide_eq_true h1.symm
 refine ⟨hi,?_⟩
 rw [Lk.cmp_zero] at M
 conv=>lhs;rw [←List.take_append_drop i xs]
 rw [setL_app _ (lk_below h ha),Dt xs i hi]
 unfold setL
 rw [if_neg (λZ=>by unfold Lk.lt at Z;rw [M] at Z;exact Pt.lin.irr _ Z),if_pos M,List.set_eq_take_append_cons_drop,if_pos hi]
theorem set_self(hi:i<xs.length)(h:e_ xs i=n):xs.set i n=xs:=by
 rw [←h,C7 xs i hi];exact List.set_getElem_self hi
end
section
variable {P:Lk->Bool}{xs:List Lk}{j:Nat}
def keptN(P:Lk->Bool)(xs:List Lk)(j:Nat):Nat:=((xs.take j).filter P).length
def keepL(P:Lk->Bool)(xs:List Lk)(j:Nat):List Lk:=(xs.take j).filter P++xs.drop j
theorem keepL_zero:keepL P xs 0=xs:=by simp [keepL]
theorem keptN_zero:keptN P xs 0=0:=by simp [keptN]
theorem keepL_end(h:xs.length<=j):keepL P xs j=xs.filter P:=by unfold keepL;rw [List.take_of_length_le h,List.drop_eq_nil_of_le h,List.append_nil]
theorem keepL_len:(keepL P xs j).length=keptN P xs j+(xs.length - j):=by simp [keepL,keptN]
theorem keptN_le:keptN P xs j<=j:=by
 unfold keptN
 have:=List.length_filter_le P (xs.take j)
 rw [List.length_take] at this
 omega
theorem keepL_at(h:j<xs.length):e_ (keepL P xs j) (keptN P xs j:Int)=e_ xs j:=by
 have Z:=keepL_len (P:=P) (xs:=xs) (j:=j)
 rw [C7 _ _ om,C7 xs j h]
 unfold keepL keptN
 rw [List.getElem_append_right (Nat.le_refl _)]
 simp
theorem keep_yes(h:j<xs.length)(Z:P (e_ xs j)=true):keepL P xs (j+1)=keepL P xs j/\keptN P xs (j+1)=keptN P xs j+1:=by
 unfold keepL keptN
 rw [Cj xs j h,List.filter_append,Dt xs j h]
 simp [Z]
theorem keep_no(h:j<xs.length)(Z:P (e_ xs j)=false):keptN P xs (j+1)=keptN P xs j:=by
 unfold keptN
 rw [Cj xs j h,List.filter_append]
 simp [Z]
theorem keep_copy(h:j<xs.length)(Z:P (e_ xs j)=false){q:Nat}(M:q=xs.length - j - 1) :
  (keepL P xs j).take (keptN P xs j)++((keepL P xs j).drop (keptN P xs j+1)).take q++(keepL P xs j).drop (keptN P xs j+q)=keepL P xs (j+1)++(keepL P xs j).drop (keptN P xs j+q):=by
 congr 1
 have e:keepL P xs j=(xs.take j).filter P++(e_ xs j::xs.drop (j+1)):=by unfold keepL;rw [←Dt xs j h]
 have e2:keepL P xs (j+1)=(xs.take j).filter P++xs.drop (j+1):=by
  unfold keepL
  rw [Cj xs j h,List.filter_append]
  simp [Z]
 have e3:keptN P xs j=((xs.take j).filter P).length:=rfl
 rw [e2,e,e3]
 generalize (xs.take j).filter P=A
 rw [List.take_left' rfl,show A.length+1=(A++[e_ xs j]).length by simp,show A++e_ xs j::xs.drop (j+1)=(A++[e_ xs j])++xs.drop (j+1) by simp,List.drop_left' rfl,List.take_of_length_le<|by rw [List.length_drop];omega]
theorem keep_take{zs:List Lk}{m:Nat}(Z:m=(keepL P xs (j+1)).length):(keepL P xs (j+1)++zs).take m=keepL P xs (j+1):=by
 rw [Z];exact List.take_left' rfl
end
theorem fitgone{nd kd wd mo nw:Int}{xs:List Lk}(h:checkS nd xs=0)(Z:0<=nw/\nw<=1048576):∀j:Nat,j<(goneL kd wd mo nw xs).length->FitOk nd (e_ (goneL kd wd mo nw xs) j):=λj M=>gone_fit h Z _ (B7 om om)
end Go.Sl
namespace Go.Sl
theorem hit_two{e:Ev}{l:Lk}(h:e.kd=2):hitE e l=decide (l.p=(eh e).p):=by unfold hitE;rw [if_pos h,decide_eq_decide,lk_p]
theorem hit_oth{e:Ev}{l:Lk}(h:¬e.kd=2):hitE e l=decide (l.u=e.u\/l.v=e.u):=by unfold hitE;rw [if_neg h]
structure ApI (xs:List Lk) (e:Ev) (k:Nat) (O:List Lk) (q:Bool):Prop where
 eq:ep xs e=O++(if e.kd=1 then (if q=true then xs.drop k else setL (eh e) (xs.drop k)) else (xs.drop k).filter λl=> !hitE e l)
 aft:q=true->e.kd=1->∀x∈xs.drop k,Lk.lt (eh e) x
 oth:e.kd≠1->q=true
section
variable {xs O:List Lk}{e:Ev}{k:Nat}{q:Bool}
theorem ApI.start:ApI xs e 0 [] (decide (e.kd≠1)):=by
 refine ⟨?_,λh Z=>absurd Z<|of_decide_eq_true h,λh=>decide_eq_true h⟩
 unfold ep
 by_cases h:e.kd=1
 ·rw [if_pos h,if_pos h,if_neg<|by simp [h]];rfl
 rw [if_neg h,if_neg h];rfl
theorem lt_rest(M:xs.Pairwise Lk.lt)(Z:k<xs.length):∀x∈xs.drop (k+1),Lk.lt (e_ xs k) x:=by
 have h:=M.sublist (List.drop_sublist k xs)
 rw [Dt xs k Z] at h
 exact (List.pairwise_cons.1 h).1
theorem ApI.ins(h:ApI xs e k O q)(ha:xs.Pairwise Lk.lt)(M:k<xs.length)(hq:(!q)=true)(Z:Pt.lt (eh e).p (e_ xs k).p):ApI xs e k (O++[eh e]) true:=by
 have aa:q=false:=by simpa using hq
 subst aa
 have h1:e.kd=1:=Classical.byContradiction λhn=>by have:=h.oth hn;cases this
 refine ⟨?_,λ_ _ x hx=>?_,λ_=>rfl⟩
 ·rw [h.eq,if_pos h1,if_pos h1,if_neg dc,if_pos rfl,Dt xs k M]
  conv=>lhs;unfold setL
  rw [if_pos (show Lk.lt (eh e) (e_ xs k) from Z),List.append_assoc];rfl
 rw [Dt xs k M] at hx
 rcases List.mem_cons.1 hx with rfl|hx
 ·exact Z
 exact Pt.lin.tr _ _ _ Z<|lt_rest ha M x hx
theorem ApI.hit(h:ApI xs e k O q)(ha:xs.Pairwise Lk.lt)(Z:k<xs.length)(h1:e.kd=1)(M:(e_ xs k).p=(eh e).p):ApI xs e (k+1) (O++[eh e]) true:=by
 have hn:¬Lk.lt (eh e) (e_ xs k):=λh2=>by unfold Lk.lt at h2;rw [M] at h2;exact Pt.lin.irr _ h2
 have aa:q=false:=Classical.byContradiction λhc=>hn (h.aft (by simpa using hc) h1 _<|by rw [Dt xs k Z];exact List.mem_cons_self)
 subst aa
 refine ⟨?_,λ_ _ x hx=>?_,λ_=>rfl⟩
 ·rw [h.eq,if_pos h1,if_pos h1,if_neg dc,if_pos rfl,Dt xs k Z]
  conv=>lhs;unfold setL
  rw [if_neg hn,if_pos M,List.append_assoc];rfl
 have:=lt_rest ha Z x hx
 unfold Lk.lt at this ⊢
 rw [←M];exact this
theorem ApI.drop(h:ApI xs e k O q)(M:k<xs.length)(Z:e.kd≠1)(hh:hitE e (e_ xs k)=true):ApI xs e (k+1) O q:=
 ⟨by rw [h.eq,if_neg Z,if_neg Z,Dt xs k M,List.filter_cons,hh];rfl,λ_ h2=>absurd h2 Z,h.oth⟩
theorem ApI.keep(h:ApI xs e k O q)(ha:xs.Pairwise Lk.lt)(M:k<xs.length)(hM:(!q)=true->¬Pt.lt (eh e).p (e_ xs k).p)(hp:e.kd=1->(e_ xs k).p≠(eh e).p)(h2:e.kd≠1->hitE e (e_ xs k)=false) :
  ApI xs e (k+1) (O++[e_ xs k]) q:=by
 refine ⟨?_,λhq Z x hx=>h.aft hq Z x<|by rw [Dt xs k M];exact List.mem_cons_of_mem _ hx,h.oth⟩
 rw [h.eq,Dt xs k M]
 by_cases Z:e.kd=1
 ·rw [if_pos Z,if_pos Z]
  cases q
  ·rw [if_neg dc,if_neg dc]
   conv=>lhs;unfold setL
   rw [if_neg (show ¬Lk.lt (eh e) (e_ xs k) from hM rfl),if_neg<|hp Z,List.append_assoc];rfl
  rw [if_pos rfl,if_pos rfl,List.append_assoc];rfl
 rw [if_neg Z,if_neg Z,List.filter_cons,h2 Z,List.append_assoc];rfl
theorem ApI.len(h:ApI xs e k O q):O.length<=xs.length+1:=by
 have Z:=congrArg List.length h.eq
 rw [List.length_append] at Z
 have M:=stepL_len xs e
 omega
theorem FitOk.chk{nd:Int}(h:FitOk nd e):checkE e=0:=Classical.byContradiction λM=>by
 have Z:=fitE_ok.2 h
 unfold fitE at Z
 rw [if_pos M] at Z
 exact M Z
theorem ApI.fin(h:ApI xs e k O q)(M:xs.length<=k)(hq:(!q)=false):O=ep xs e:=by
 have Z:q=true:=by simpa using hq
 rw [h.eq,List.drop_eq_nil_of_le M,Z]
 by_cases h1:e.kd=1
 ·rw [if_pos h1,if_pos rfl,List.append_nil]
 rw [if_neg h1,List.filter_nil,List.append_nil]
theorem ApI.finIns(h:ApI xs e k O q)(hk:xs.length<=k)(hq:(!q)=true):O++[eh e]=ep xs e:=by
 have Z:q=false:=by simpa using hq
 have M:e.kd=1:=Classical.byContradiction λhn=>by have:=h.oth hn;rw [Z] at this;cases this
 rw [h.eq,List.drop_eq_nil_of_le hk,Z,if_pos M,if_neg dc];rfl
end
end Go.Sl
