/- A part of the proofs of statements of this seat: contracts of functions, and the plain laws that they lean on. No conditions. -/
import Derived.Test.YtoagcglbkeomgaaGreatDoorA21
set_option linter.unusedVariables false
set_option linter.unusedSimpArgs false
set_option linter.unusedSectionVars false
open Go.Proofs.Tryz (prog)
set_option maxHeartbeats 4000000
namespace Go.Sl
open Go.Proofs
set_option maxRecDepth 4000
variable{b ec nc:Nat}{M ea la na:Option Addr}{qs:List Int}{nd u v:Int}{es:List Pt}
variable {κ:Ctx}{I:List Item}
attribute [local irreducible] W G V D A j8 Eff
theorem ch6{lc:Nat}{i:Int}(hb:qs.length<=1000000000):eu prog κ 292 [e7 i,(pt b)] (vk 3 la lc qs::e8 b [.slice la qs.length lc] 22::I) (λr J=>∃(a:Option Addr) (c:Nat),r = .tuple #[]/\J=vk 3 a c (qs++[i])::e8 b [.slice a (qs++[i]).length c] 22::I):=by
 refine Ce2 Tryz.func292 C C<|Z ?_
 refine Ge1 (B1 (α:=Int) (cs:=[_]) (xs:=[i]) Ac ef C C dc dc C C C C) λab=>?_
 refine Ge2 (Bs (α:=Int) (e:=3) (xs:=qs) (ys:=([i]:List Int)) Ac ef C C C mm A5 lcn dc C<|λ_ _=>am) λM aa=>?_
 refine Ge0 (Bt (cs:=[_]) (vs:=[_]) (cs':=[_]) W4) ?_
 exact Bq<|V.end0 C (vk 3 M aa (qs++[i])::e8 b [.slice M (qs++[i]).length aa] 22::I) Az ⟨M,aa,rfl,rfl⟩
theorem fd9{M:Nat}(hb:qs.length<=1000000000):eu prog κ 293 [(pt b)] (vk 3 la M qs::e8 b [.slice la qs.length M] 22::I) (λr J=>(qs=[]/\r = .tuple #[e7 0,.bool false]/\J=vk 3 la M qs::e8 b [.slice la qs.length M] 22::I)\/(0<qs.length/\∃(a:Option Addr) (c:Nat),r = .tuple #[e7 (e_ qs 0),.bool true]/\J=vk 3 a c (qs.drop 1)::e8 b [.slice a (qs.drop 1).length c] 22::I)):=by
 refine Ce1 Tryz.func293 C C<|Z ?_
 refine Ao C (λc6=>Z ?_)<|λc6=>Z ?_
 ·exact C2 C C C (vk 3 la M qs::e8 b [.slice la qs.length M] 22::I) Az<|.inl ⟨Kz.1 om,rfl,rfl⟩
 refine Gr (Do (α:=Int) (xs:=qs) (l:=1) Ac ef C C om A5 om)<|Ge0 (Bt (cs:=[_]) (vs:=[_]) (cs':=[_]) W4)<|Z ?_
 exact C2 C C C (vc 3 (.slice (P1 la M 1<|Enc.sz Int) (List.drop 1 qs).length (M - 1)) (qs.drop 1)::e8 b [.slice (P1 la M 1<|Enc.sz Int) (List.drop 1 qs).length (M - 1)] 22::I) (A9 Az<|Fit.fz1 (α:=Int) C om)<|.inr ⟨by omega,(P1 la M 1<|Enc.sz Int),(M - 1),rfl,rfl⟩
theorem fd8  :
    eu prog κ 290 [] I (λr J=>∃b:Nat,r = .tuple #[.func (.func 292) #[] #[(pt b)],.func (.func 293) #[] #[(pt b)]]/\J=vk 3 none 0 ([]:List Int)::e8 b [.slice none ([]:List Int).length 0] 22::I):=by
 refine Ce0 Tryz.func290 C C<|Z ?_
 refine Ge1 (Aj W4 C) λb1=>Ar<|Al<|Gr (D0 C C)<|Ga C<|Ar<|Al<|Gr (D0 C C)<|Z ?_
 exact C2 C C C (vk 3 none 0 ([]:List Int)::e8 b1 [.slice none ([]:List Int).length 0] 22::I) (A9 Az<|B6 (α:=Int) _ _) ⟨b1,rfl,rfl⟩
variable {κ:Ctx}{I:List Item}
theorem gb1(hl:Sl κ I (.slice ea es.length ec) es)(hm:Sl κ I (.slice na (j5 nd es).length nc) (j5 nd es))(hG:s8 nd es)(hT:F4 κ I 0 p5):eu prog κ 285 [.agg #[e7 nd,.slice ea es.length ec,.slice na (j5 nd es).length nc]] I (λr J=>r = .bool true/\I=J):=by
 have M:=s4.2 hG
 have ae:=q9 hG
 refine Ce1 Tryz.func285 C C ?_
 refine Al<|Ge1 (Av (cs:=[_,_,_]) C C C) λb1=>Z ?_
 refine G.e (Ab c_ C C<|bg8 (nd:=nd) (A3 hl) om<|Ba hT Ah) ?_
 rintro _ _ ⟨_,_,⟨ab,ad,rfl,rfl⟩,rfl,rfl⟩
 refine Z ?_
 refine A4 (d:=13) C (λaa=>Z ?_)<|λaa=>Z ?_
 ·refine Dt (Cm C C C) (Ab c_ C C<|cq9 (xs:=j5 nd es) (ys:=j5 nd es) A5<|A3 hm) ?_
  rintro _ _ ⟨_,_,⟨rfl,rfl⟩,rfl,rfl⟩
  refine Z ?_
  exact Am C C I Ah ⟨by first|rfl|(simp;done)|exact absurd M asm,rfl⟩
 exact Am C C I Ah ⟨by first|rfl|(simp;done)|exact absurd M asm,rfl⟩
theorem cb8(hl:Sl κ I (.slice ea es.length ec) es)(hm:Sl κ I (.slice M (j5 nd es).length nc) (j5 nd es))(hG:s8 nd es)(he:F5 nd u v)(hT:F4 κ I 0 p5):eu prog κ 286 [.agg #[e7 nd,.slice ea es.length ec,.slice M (j5 nd es).length nc],e7 u,e7 v] I (λr J=>r=e7 0/\I=J):=by
 refine Ce3 Tryz.func286 C C ?_
 refine Al<|Ge1 (Av (cs:=[_,_,_]) C C C) λb1=>Z ?_
 refine Gc0 (Ab c_ C C<|gb1 (nd:=nd) (A3 hl) (A3 hm) hG<|Ba hT Ah)<|Z ?_
 refine Gc0 (Ab c_ C C<|ci5 nd u v)<|Z ?_
 refine Ao C (λc11=>Z ?_)<|λc11=>Z ?_
 ·exact Am C C I Ah ⟨by first|rfl|exact absurd he asm,rfl⟩
 exact Am C C I Ah ⟨by first|rfl|exact absurd he asm,rfl⟩
theorem fe3(hl:Sl κ I (.slice ea es.length ec) es)(hG:s8 nd es)(hT:F4 κ I 0 p5):eu prog κ 42 [.agg #[e7 nd,.slice ea es.length ec]] I (λr J=>∃(ga:Option Addr) (gc:Nat) (a:Option Addr) (c:Nat),r = .tuple #[.agg #[e7 nd,.slice ga es.length gc,.slice a (j5 nd es).length c],e7 0]/\J=vk 3 a c (j5 nd es)::vk 105 ga gc es::I):=by
 have ae:=s4.2 hG
 have ah:=q9 hG
 refine Ce1 Tryz.func42 C C ?_
 refine Al<|Ge1 (Av (cs:=[_,_]) C C C) λb1=>Ge1 (Aj L6 C) λb2=>Z ?_
 refine G.e (Ab c_ C C<|bg8 (nd:=nd) (A3 hl) om<|Ba hT Ah) ?_
 rintro _ _ ⟨_,_,⟨ab,aa,rfl,rfl⟩,rfl,rfl⟩
 refine Z ?_
 refine Ao C (λc12=>Z ?_)<|λc12=>?_
 ·refine Ge0 (Db L6) (Z ?_)
  exact Cp C L6 C C mm C I Ah<|by exfalso;first|exact absurd ae asm|omega
 refine Bc<|Ak<|Ax<|A8 mixed<|Ee 8<|Z ?_
 refine Ds1 4<|Sc2 C (Ab c_ C C<|an2 (xs:=es) (A3 hl) om) λad M=>Z ?_
 refine Ch kr ?_
 refine Ae 8 C (Db L6) ?_
 rintro _ _ ⟨rfl,rfl⟩
 refine Di (i:=9) kr C (Aq C) C C (Bj C) ?_
 refine Ci kr<|Z ?_
 exact Cp C L6 C C mm C (vk 3 ab aa (j5 nd es)::vk 105 ad M es::I) Az ⟨ad,M,ab,aa,rfl,rfl⟩
theorem dy0{y:Int}(h:at4 nd es u v y):y<(es.length:Int):=by
 rcases h with ⟨_,j,rfl,M,_⟩|⟨rfl,_⟩<;>omega
theorem P4{κ:Ctx}{I:List Item}{nd':Int}{ga ma:Option Addr}{gc mc:Nat}{es':List Pt}{num num':List Int}(hl:Sl κ I (.slice M es.length ec) es)(hm:Sl κ I (.slice na num.length nc) num)(ah:Sl κ I (.slice ga es'.length gc) es')(ao:Sl κ I (.slice ma num'.length mc) num')(hb:es.length<=1000000)(ak:es'.length<=1000000)(h1:num.length=es.length)(h2:num'.length=es'.length):eu prog κ 289 [.agg #[e7 nd,.slice M es.length ec,.slice na num.length nc],.agg #[e7 (nd'),.slice ga es'.length gc,.slice ma num'.length mc]] I (λr J=>∃w:Value,r=w/\J=I):=by
 refine Ce2 Tryz.func289 C C ?_
 refine Al<|Ge1 (Av (cs:=[_,_,_]) C C C) λb1=>Ge1 (Av (cs:=[_,_,_]) C C C) λb2=>Z ?_
 refine B9 (σ:=Nat×(Option Addr)×Nat×(List Pt)) (λs=>([(2,pt b1),(3,pt b2),(5,.slice s.2.1 s.2.2.2.length s.2.2.1),(11,.slice M es.length ec),(12,e7 ((es.length:Nat):Int)),(13,e7 ((s.1:Nat):Int))]:Env)) (λs=>vk 105 s.2.1 s.2.2.1 s.2.2.2::e8 b2 [e7 (nd'),.slice ga es'.length gc,.slice ma num'.length mc] 41::e8 b1 [e7 nd,.slice M es.length ec,.slice na num.length nc] 41::I) (λs=>(s.1<=es.length)/\(s.2.2.2.length<=s.1)) (λs=>es.length - s.1) (0,none,0,[]) ⟨om,(by simp)⟩ (cx2<|Aa (Da C<|by first|rfl|simp)<|cx2<|Aa Cl Bb) (A9 (show Fit κ _ _ from Az)<|B6 (α:=Pt) _ _) ?_
 rintro ⟨k,oa,oc,o⟩ hp
 dsimp only at hp ⊢
 obtain ⟨hk,an⟩:=hp
 refine Z ?_
 refine Ao C (λad=>Z ?_)<|λad=>Z ?_
 ·refine Ge1 (Aj s9 C) λb3=>Ga C (Ge0 (Co s9)<|Z ?_)
  refine G.e (Ab c_ C C<|at5 (nd:=nd') (A3 ah) ((e_ es k).u) ((e_ es k).v) om) ?_
  rintro _ _ ⟨_,_,⟨y4,rfl,ab,rfl⟩,rfl,rfl⟩
  refine Z ?_
  have aq:=dy0 ab
  refine Z ?_
  refine A8 mixed<|Ee 15<|Z ?_
  refine Df (d:=27) C (λae=>Z ?_)<|λae=>?_
  ·refine Ao C (λai=>Z ?_) (λai=>Z ?_)
   ·refine Ge1 (B1 (α:=Pt) (cs:=[_,_]) (xs:=[⟨(e_ es k).u,(e_ es k).v⟩]) Ay s9 C C dc dc C C C C) λap=>?_
    refine Ge2 (Bs (α:=Pt) (e:=105) (xs:=o) (ys:=([⟨(e_ es k).u,(e_ es k).v⟩]:List Pt)) Ay s9 C C C mm A5 lcn dc C<|λ_ _=>am) λaj aa=>Z ?_
    exact Bu ((k+1),(aj),(aa),(o++([⟨(e_ es k).u,(e_ es k).v⟩]:List Pt)))<|by dsimp only;exact ⟨om,olp⟩
   exact Bu ((k+1),(oa),(oc),(o))<|by dsimp only;exact ⟨om,olp⟩
  refine Dpo 3 C<|Z ?_
  exact Bu ((k+1),(oa),(oc),(o))<|by dsimp only;exact ⟨om,olp⟩
 exact Am C C I Ah ⟨_,rfl,rfl⟩
end Go.Sl
namespace Go.Sl
open Go.Proofs
set_option maxRecDepth 4000
variable{b:List Int}{bc ec gc j k nc:Nat}{κ:Ctx}{I:List Item}{ea ga na:Option Addr}{y:Int}
section
variable {nd:Int}{es:List Pt}{bs ms:List Int}
theorem bv4(nd:Int)(es:List Pt):(G2 nd es).length=es.length:=Ge ..
theorem TrB.start(hB:TrB nd es bs)(h1:∀i:Int,0<=i->i<es.length->i∈ms)(h2:∀i∈ms,0<=i/\i<es.length):am6 (G2 nd es) (j5 nd es) bs ms:=by
 have hl:=bv4 nd es
 exact ⟨by rw [hl];exact hB.len,λi hi=>by rw [hl];exact h2 i hi,λi M i1=>hB.low i M om,λi M i1=> .inl<|h1 i M om⟩
theorem bv1(M:s8 nd es):bu3 (λi:Int=>0<=i/\i<(G2 nd es).length) (da1 (G2 nd es)) λi=>(e_ (j5 nd es) i).toNat:=by
 have h1:=bv3 (dr7 M) (db2 (dr7 M)<|au6 M)
 rw [bv2 M];exact h1
theorem df4:∀{l:List Int},(∀x∈l,0<=x)->0<=l.sum
 |[],_=>by simp
 |x::l,h=>by
  have h1:=df4 (l:=l) λy M=>h y (C_ _ M)
  have h2:=h x A_
  rw [Jg];omega
theorem fi5{m:Int}:∀{l:List Int},(∀x∈l,x<=m)->l.sum<=m*(l.length:Int)
 |[],_=>by simp
 |x::l,h=>by
  have h1:=fi5 (l:=l) λy M=>h y (C_ _ M)
  have h2:=h x A_
  rw [Jg,E_]
  have h3:m*((l.length+1:Nat):Int)=m*(l.length:Int)+m:=by rw [Mn,Lu];simp
  omega
theorem dc9{tri:List (List Pt)}{t q:List Int}(h:am6 tri t b q):0<=b.sum:=df4 λx M=>by
 obtain ⟨i,hi,rfl⟩:=av6 M
 have h1:=h.len
 have h2:=h.low (i:Int) om om
 omega
theorem cv6(l:List Pt):(bj1 l).length=2*l.length:=by
 induction l with
 |nil=>rfl
 |cons p l ih=>unfold bj1 at ih ⊢; rw [List.flatMap_cons,By,ih];simp;omega
theorem cg5(l:List Pt)(h:k<l.length):bj1 (l.take (k+1))=bj1 (l.take k)++[(e_ l k).u,(e_ l k).v]:=by
 unfold bj1;rw [Ca l k h,List.flatMap_append];simp
theorem fo2(h:0<ms.length):ms=e_ ms 0::ms.drop 1:=by
 cases ms with
 |nil=>cases h
 |cons a l=>rfl
end
theorem fq3{nd:Int}{ba:Option Addr}{es:List Pt}{bs:List Int}(hl:Sl κ I (.slice ea es.length ec) es)(hG:s8 nd es)(hB:TrB nd es bs)(a5:∀x∈bs,0<=x/\x<=1000)(hT:F4 κ I 0 p5):eu prog κ 288 [.agg #[e7 nd,.slice ea es.length ec],.slice ba bs.length bc] (vk 3 ba bc bs::I) (λr J=>r = .slice ba bs.length bc/\J=vc 3 (.slice ba bs.length bc) (j5 nd es)::I):=by
 have bq:=hG.rng
 have ca:=q9 hG
 have b8:=hB.len
 have bt:=df4 (λx hx=>(a5 x hx).1)
 have b2:=fi5 (λx hx=>(a5 x hx).2)
 have b4:=bv4 nd es
 refine Ce2 Tryz.func288 C C ?_
 refine Al<|Ge1 (Av (cs:=[_,_]) C C C) λb1=>Ga C<|Ar<|Al<|Gl2 K0 ?_
 refine G.e (Ab c_ C C<|ay6 (nd:=nd) (A3 hl) hG om<|Ba hT Ah) ?_
 rintro _ _ ⟨_,_,⟨ah,ai,M,rfl,au,rfl⟩,rfl,rfl⟩
 have cb:M.length=(G2 nd es).length:=by rw [←au,Ge]
 refine Dp (J:=vk 198 ah ai M::e8 b1 [e7 nd,.slice ea es.length ec] 38::vk 3 ba bc bs::(rgI M++I)) (Cj<|List.Perm.cons _<|Cz (A:=rgI M) (L:=[e8 b1 [e7 nd,.slice ea es.length ec] 38,vk 3 ba bc bs]) (T:=I)) ?_
 refine Ga C<|Ar<|Al<|G.e (Ab c_ C C fd8) ?_
 rintro _ _ ⟨_,_,⟨ae,rfl,rfl⟩,rfl,rfl⟩
 refine Gm C<|Gr (Bf C C)<|Gr (Bf C C)<|Ga C<|Ga C<|Ar<|Ax<|Al<|Gm C<|Gr (Bn Ac C)<|Gm C<|Ar<|A0 (S6 25 24 7 6 5 1)<|A7<|B9 (σ:=Nat×(Option Addr)×Nat×(List Int)) (λs=>([(1,.slice ba bs.length bc),(5,.slice ah M.length ai),(6,.func (.func 292) #[] #[(pt ae)]),(7,.func (.func 293) #[] #[(pt ae)]),(24,e7 ((bs.length:Nat):Int)),(25,e7 ((s.1:Nat):Int))]:Env)) (λs=>vk 3 s.2.1 s.2.2.1 s.2.2.2::e8 ae [.slice s.2.1 s.2.2.2.length s.2.2.1] 22::vk 198 ah ai M::e8 b1 [e7 nd,.slice ea es.length ec] 38::vk 3 ba bc bs::(rgI M++I)) (λs=>(s.1<=bs.length)/\(s.2.2.2.length=s.1)/\(∀i:Int,i∈s.2.2.2↔0<=i/\i<(s.1:Int))) (λs=>bs.length - s.1) (0,none,0,([]:List Int)) ⟨om,rfl,(λi=>⟨(λh=>by cases h),(λh=>by omega)⟩)⟩ (cx4<|Aa C<|Aa Cl Bb) Ai ?_
 rintro ⟨k,qa,qc,q⟩ hp
 dsimp only at hp ⊢
 obtain ⟨hk,b9,hq⟩:=hp
 refine Al<|Gr (Bm C C)<|Ar<|Ax<|Ao C (λbf=>?_)<|λbf=>?_
 ·refine Bc (Ak<|Ax<|A7<|Al<|Gm C<|Ga C<|Ar<|A6<|Gm C<|Gm C<|Gc2 (Cx c_ C C C<|Ck (J:=vk 3 qa qc q::e8 ae [.slice qa q.length qc] 22::vk 198 ah ai M::e8 b1 [e7 nd,.slice ea es.length ec] 38::vk 3 ba bc bs::(rgI M++I)) Az<|ch6 (b:=ae) (qs:=q) (i:=(k:Int)) olp) λbb bo=>?_)
  exact Bq<|Au<|Ak<|A6<|Gr (Rad C C)<|Gm C<|Bq<|Bu ((k+1),(bb),(bo),(q++[(k:Int)]))<|by dsimp only;exact ⟨om,lap,(λi=>by rw [Gw,Gh,hq];omega)⟩
 refine Cg<|Aw<|Aw<|Bi<|Ak<|A7<|B9 (σ:=(List Int)×(Option Addr)×Nat×(List Int)) (λs=>([(1,.slice ba bs.length bc),(5,.slice ah M.length ai),(6,.func (.func 292) #[] #[(pt ae)]),(7,.func (.func 293) #[] #[(pt ae)])]:Env)) (λs=>vk 3 s.2.1 s.2.2.1 s.2.2.2::e8 ae [.slice s.2.1 s.2.2.2.length s.2.2.1] 22::vk 198 ah ai M::e8 b1 [e7 nd,.slice ea es.length ec] 38::vc 3 (.slice ba bs.length bc) (s.1)::(rgI M++I)) (λs=>(am6 (G2 nd es) (j5 nd es) s.1 s.2.2.2)/\((s.2.2.2.length:Int)+200*s.1.sum<=(bs.length:Int)+200*bs.sum)) (λs=>s.2.2.2.length+200*s.1.sum.toNat) (bs,qa,qc,q) (show (am6 (G2 nd es) (j5 nd es) (bs:List Int) (q:List Int))/\(((q:List Int).length:Int)+200*(bs:List Int).sum<=(bs.length:Int)+200*bs.sum) from ⟨(hB.start (λi h0 h1=>(hq i).2 ⟨h0,by omega⟩) (λi hi=>by have:=(hq i).1 hi;omega)),om⟩) (cx2<|Aa C<|Aa C Bb) Ai ?_
 rintro ⟨aa,ma,mc,ms⟩ hp
 dsimp only at hp ⊢
 obtain ⟨hS,b5⟩:=hp
 have bu:=hS.len
 have b6:=dc9 hS
 have br:=hS.low
 refine A7<|Al<|Gm C<|G.e (Cx c_ C C C<|Ck (J:=vk 3 ma mc ms::e8 ae [.slice ma ms.length mc] 22::vk 198 ah ai M::e8 b1 [e7 nd,.slice ea es.length ec] 38::vc 3 (.slice ba bs.length bc) (aa)::(rgI M++I)) Az<|fd9 (b:=ae) (qs:=ms) olp) ?_
 rintro _ _ ⟨_,_,(⟨bm,rfl,rfl⟩|⟨bp,aj,ak,rfl,rfl⟩),rfl,rfl⟩
 ·skip
  refine Gm C<|Gr (Bf C C)<|Gr (Bf C C)<|Ga C<|Ga C<|Ar<|Ax<|Al<|Gm C<|Gr (Ey C)<|Ar<|W.yes C<|Al<|Gm C<|Ga C<|Ar<|A0 (S1 4)<|B3<|Cu<|V.bg4<|Cu<|V.bg4 ?_
  have be:ms=[]:=by assumption
  rw [be] at hS
  have bi:=hS.done (dr7 hG) (bv1 hG) (by rw [G4 hG];omega)
  exact Am C C (vc 3 (.slice ba bs.length bc) (j5 nd es)::I) (by rw [←bi];exact Az) ⟨rfl,rfl⟩
 skip
 refine Gm C<|Gr (Bf C C)<|Gr (Bf C C)<|Ga C<|Ga C<|Ar<|Ax<|Al<|Gm C<|Gr (Ey C)<|Ar<|W.no C<|Bc<|Ak<|Al<|Ga C ?_
 have ao:=hS.rng _ (Bo (xs:=ms) (i:=0) om om)
 have ap:(e_ M<|e_ ms 0).xs=e_ (G2 nd es) (e_ ms 0):=az6 au ao.1 om
 have a7:=(au6 hG).len _ (Bo (xs:=(G2 nd es)) ao.1 om)
 rw [←ap] at a7
 have a0:am6 (G2 nd es) (j5 nd es) aa ((e_ ms 0)::ms.drop 1):=by rw [←fo2 om];exact hS
 have a8:=fun (p:Pt) (hp:p∈(e_ M<|e_ ms 0).xs)=>((dr7 hG).rng _ ao.1 ao.2 p (ap▸hp)).1
 refine Ar<|A0 (S6 11 9 1 5 6 7)<|Ax<|Al<|Gm C<|Gm C<|Gr (A1 (α:=(G1 Pt)) (xs:=M) D8 bi6 C C A5 (by first|omega|(have h8:=ab om;omega))<|by first|omega|(have h8:=ab om;omega))<|Gr (Cc (α:=(G1 Pt)) (xs:=M) (u:= .slice (e_ M<|e_ ms 0).a (e_ M<|e_ ms 0).xs.length (e_ M<|e_ ms 0).c) bi6 C A5 (by first|omega|(have h8:=ab om;omega)) (by first|omega|(have h8:=ab om;omega)) C)<|Gr (Bn Bw C)<|Gm C<|Ar<|A7<|B9 (σ:=Nat×(Option Addr)×Nat×(List Int)) (λs=>([(1,.slice ba bs.length bc),(5,.slice ah M.length ai),(6,.func (.func 292) #[] #[(pt ae)]),(7,.func (.func 293) #[] #[(pt ae)]),(9,e7<|e_ ms 0),(11,.slice s.2.1 s.2.2.2.length s.2.2.1),(43,.slice (e_ M<|e_ ms 0).a (e_ M<|e_ ms 0).xs.length (e_ M<|e_ ms 0).c),(44,e7<|(((e_ M<|e_ ms 0).xs.length:Nat):Int)),(45,e7 ((s.1:Nat):Int))]:Env)) (λs=>vk 3 s.2.1 s.2.2.1 s.2.2.2::vk 3 aj ak (List.drop 1 ms)::e8 ae [.slice aj (List.drop 1 ms).length ak] 22::vk 198 ah ai M::e8 b1 [e7 nd,.slice ea es.length ec] 38::vc 3 (.slice ba bs.length bc) (aa)::(rgI M++I)) (λs=>(s.1<=(e_ M<|e_ ms 0).xs.length)/\(s.2.2.2=((e_ M<|e_ ms 0).xs.take s.1).map λp=>min (e_ aa p.u)<|e_ aa p.v)) (λs=>(e_ M<|e_ ms 0).xs.length - s.1) (0,none,0,([]:List Int)) ⟨om,rfl⟩ (cx4<|Aa C<|Aa (Da C<|by first|rfl|simp)<|cx2<|Aa Cl Bb) (A9 (show Fit κ _ _ from Az)<|B6 (α:=Int) _ _) ?_
 rintro ⟨j,oa,oc,o⟩ hp
 dsimp only at hp ⊢
 obtain ⟨hj,ho⟩:=hp
 have cc:o.length=j:=by rw [ho,Ge,Ft];omega
 have ab:=λh:j<(e_ M<|e_ ms 0).xs.length=>a8 _ (Bo (xs:=(e_ M<|e_ ms 0).xs) (i:=(j:Int)) om om)
 refine Al<|Gr (Bm C C)<|Ar<|Ax<|Ao C (λbj=>?_)<|λbj=>?_
 ·refine Bc (Ak<|Ax<|A7<|Al<|Gr (A1 (α:=Pt) (xs:=(e_ M<|e_ ms 0).xs) Bw L9 C C (Cy<|by repeat (first|exact an3 (rs:=M) (i:=(e_ ms 0)) om om|apply C_)) (by first|omega|(have h8:=ab om;omega))<|by first|omega|(have h8:=ab om;omega))<|Gr (C7 (α:=Pt) (xs:=(e_ M<|e_ ms 0).xs) L9 C (Cy<|by repeat (first|exact an3 (rs:=M) (i:=(e_ ms 0)) om om|apply C_)) (by first|omega|(have h8:=ab om;omega))<|by first|omega|(have h8:=ab om;omega))<|Ge1 (Aj L9 C) λa6=>Ge0 (Co L9) ?_)
  refine Ar<|A8 mixed<|Bv (e8 a6 [e7 ((e_ ((e_ M<|e_ ms 0).xs) (j:Int)).u),e7<|(e_ ((e_ M<|e_ ms 0).xs) (j:Int)).v] 200::vk 3 aj ak (List.drop 1 ms)::e8 ae [.slice aj (List.drop 1 ms).length ak] 22::vk 198 ah ai M::e8 b1 [e7 nd,.slice ea es.length ec] 38::vc 3 (.slice ba bs.length bc) (aa)::(rgI M++I)) 15<|Dr 0 C (Ap C)<|Dr 1 C (Ap C)<|Dr 2 C (B5 B7 ty2 C C om om)<|Dr 3 C (Be ef) ?_
  refine Dr 4 C (A1 (α:=Int) (xs:=aa) Ac ef C C A5 (by first|omega|(have h8:=ab om;omega))<|by first|omega|(have h8:=ab om;omega))<|Dr 5 C (B8 (xs:=aa) ef C A5 (by first|omega|(have h8:=ab om;omega))<|by first|omega|(have h8:=ab om;omega))<|Dr 6 C (Ap C)<|Dr 7 C (B5 B7 ty2 C C om om)<|Dr 8 C (Be ef) ?_
  refine Dr 9 C (A1 (α:=Int) (xs:=aa) Ac ef C C A5 (by first|omega|(have h8:=ab om;omega))<|by first|omega|(have h8:=ab om;omega))<|Dr 10 C (B8 (xs:=aa) ef C A5 (by first|omega|(have h8:=ab om;omega))<|by first|omega|(have h8:=ab om;omega))<|Dr 11 C (j8.min C C)<|Ds1 12<|Se1 C (B1 (α:=Int) (cs:=[_]) (xs:=[if (e_ aa<|(e_ ((e_ M<|e_ ms 0).xs) (j:Int)).v)<(e_ aa<|(e_ ((e_ M<|e_ ms 0).xs) (j:Int)).u) then (e_ aa<|(e_ ((e_ M<|e_ ms 0).xs) (j:Int)).v) else (e_ aa<|(e_ ((e_ M<|e_ ms 0).xs) (j:Int)).u)]) Ac ef C C dc dc C C C C) λbv=>?_
  refine Ds1 13<|Se2 C (Bs (α:=Int) (e:=3) (xs:=o) (ys:=([if (e_ aa<|(e_ ((e_ M<|e_ ms 0).xs) (j:Int)).v)<(e_ aa<|(e_ ((e_ M<|e_ ms 0).xs) (j:Int)).u) then (e_ aa<|(e_ ((e_ M<|e_ ms 0).xs) (j:Int)).v) else (e_ aa<|(e_ ((e_ M<|e_ ms 0).xs) (j:Int)).u)]:List Int)) Ac ef C C C mm A5 lcn dc C<|λ_ _=>am) λay a3=>?_
  exact Dr 14 C (Bj C)<|Dz<|Au<|Ak<|A0 (S9 11 1 5 6 7 9 43 44 45)<|A6<|Gr (Rad C C)<|Gm C<|Bq<|Bu ((j+1),(ay),(a3),(o++([if (e_ aa<|(e_ ((e_ M<|e_ ms 0).xs) (j:Int)).v)<(e_ aa<|(e_ ((e_ M<|e_ ms 0).xs) (j:Int)).u) then (e_ aa<|(e_ ((e_ M<|e_ ms 0).xs) (j:Int)).v) else (e_ aa<|(e_ ((e_ M<|e_ ms 0).xs) (j:Int)).u)]:List Int)))<|by dsimp only;exact ⟨om,(by rw [Ca _ j om,Hv,←ho];simp only [Hk,Ku];first|rfl|(rw [fy2]))⟩
 refine Cg<|Aw<|Aw<|Bi<|Ak<|Ax<|A8 mixed<|Ee 8<|Dr 0 C (Ap C)<|Dr 2 C (Ap C)<|Dr 3 C (Ap C)<|Dr 4 C (A1 (α:=Int) (xs:=aa) Ac ef C C A5 (by first|omega|(have h8:=ab om;omega))<|by first|omega|(have h8:=ab om;omega))<|Dr 5 C (B8 (xs:=aa) ef C A5 (by first|omega|(have h8:=ab om;omega))<|by first|omega|(have h8:=ab om;omega))<|Ds1 1<|Se C (Ab c_ C C<|H_ok (xs:=o) A5 om) ?_
 rintro _ _ ⟨_,_,⟨ad,rfl,an,rfl⟩,rfl,rfl⟩
 refine ⟨Ah,?_⟩
 refine Dr 6 C (j8.min C C) ?_
 have bn:(if (e_ aa<|e_ ms 0)<(ad:Int) then (e_ aa<|e_ ms 0) else (ad:Int))=(min (ad:Int)<|e_ aa<|e_ ms 0):=by split<;>omega
 rw [bn]
 have a1:HI (bj0 (G2 nd es) aa<|e_ ms 0) (ad:Int):=by rw [ho,show j=(e_ M<|e_ ms 0).xs.length by omega,Hg,ap] at an;exact an
 refine Dr 7 C (Bj C)<|Dz<|Ak<|A0 (S6 14 1 5 6 7 9)<|Al<|Gm C<|Gm C<|Gm C<|Gr (A1 (α:=Int) (xs:=aa) Ac ef C C A5 (by first|omega|(have h8:=ab om;omega))<|by first|omega|(have h8:=ab om;omega))<|Gr (B8 (xs:=aa) ef C A5 (by first|omega|(have h8:=ab om;omega))<|by first|omega|(have h8:=ab om;omega))<|Gr (Bm C C)<|Ar<|Ao C (λbg=>?_)<|λbg=>?_
 ·refine Al (Gm C<|Gm C<|Gm C<|Gr (A1 (α:=Int) (xs:=aa) Ac ef C C A5 (by first|omega|(have h8:=ab om;omega))<|by first|omega|(have h8:=ab om;omega))<|Ge0 (Cw (α:=Int) (xs:=aa) (e:=3) (new:=(min (ad:Int)<|e_ aa<|e_ ms 0)) ef C C C (by first|omega|(have h8:=ab om;omega)) (by first|omega|(have h8:=ab om;omega)) am) ?_)
  refine Ar<|A0 (S5 1 5 6 7 9)<|Al<|Gm C<|Gm C<|Gr (A1 (α:=(G1 Pt)) (xs:=M) D8 bi6 C C A5 (by first|omega|(have h8:=ab om;omega))<|by first|omega|(have h8:=ab om;omega))<|Gr (Cc (α:=(G1 Pt)) (xs:=M) (u:= .slice (e_ M<|e_ ms 0).a (e_ M<|e_ ms 0).xs.length (e_ M<|e_ ms 0).c) bi6 C A5 (by first|omega|(have h8:=ab om;omega)) (by first|omega|(have h8:=ab om;omega)) C)<|Gr (Bn Bw C)<|Gm C<|Ar<|A7<|B9 (σ:=Nat×(Option Addr)×Nat×(List Int)) (λs=>([(1,.slice ba bs.length bc),(5,.slice ah M.length ai),(6,.func (.func 292) #[] #[(pt ae)]),(7,.func (.func 293) #[] #[(pt ae)]),(84,.slice (e_ M<|e_ ms 0).a (e_ M<|e_ ms 0).xs.length (e_ M<|e_ ms 0).c),(85,e7<|(((e_ M<|e_ ms 0).xs.length:Nat):Int)),(86,e7 ((s.1:Nat):Int))]:Env)) (λs=>vk 3 s.2.1 s.2.2.1 s.2.2.2::e8 ae [.slice s.2.1 s.2.2.2.length s.2.2.1] 22::vk 3 oa oc o::vk 198 ah ai M::e8 b1 [e7 nd,.slice ea es.length ec] 38::vc 3 (.slice ba bs.length bc) (List.set aa (e_ ms 0).toNat ((min (ad:Int)<|e_ aa<|e_ ms 0)))::(rgI M++I)) (λs=>(s.1<=(e_ M<|e_ ms 0).xs.length)/\(s.2.2.2=ms.drop 1++bj1 ((e_ M<|e_ ms 0).xs.take s.1))) (λs=>(e_ M<|e_ ms 0).xs.length - s.1) (0,aj,ak,List.drop 1 ms) ⟨om,(by unfold bj1;simp)⟩ (cx4<|cx2<|Aa Cl Bb) Az ?_
  rintro ⟨j2,pa,pc,ps⟩ hp
  dsimp only at hp ⊢
  obtain ⟨b7,aw⟩:=hp
  have b3:ps.length=(ms.length - 1)+2*j2:=by rw [aw,By,Gb,cv6,Ft];omega
  refine Al<|Gr (Bm C C)<|Ar<|Ax<|Ao C (λbh=>?_)<|λbh=>?_
  ·refine Bc (Ak<|Ax<|A7<|Al<|Gr (A1 (α:=Pt) (xs:=(e_ M<|e_ ms 0).xs) Bw L9 C C (Cy<|by repeat (first|exact an3 (rs:=M) (i:=(e_ ms 0)) om om|apply C_)) (by first|omega|(have h8:=ab om;omega))<|by first|omega|(have h8:=ab om;omega))<|Gr (C7 (α:=Pt) (xs:=(e_ M<|e_ ms 0).xs) L9 C (Cy<|by repeat (first|exact an3 (rs:=M) (i:=(e_ ms 0)) om om|apply C_)) (by first|omega|(have h8:=ab om;omega))<|by first|omega|(have h8:=ab om;omega))<|Ge1 (Aj L9 C) λax=>Ge0 (Co L9) ?_)
   refine Ar<|Al<|Gm C<|Gr (B5 B7 ty2 C C om om)<|Gl ef ?_
   refine Gc2 (Cx c_ C C C<|Ck (J:=vk 3 pa pc ps::e8 ae [.slice pa ps.length pc] 22::e8 ax [e7 ((e_ ((e_ M<|e_ ms 0).xs) (j2:Int)).u),e7<|(e_ ((e_ M<|e_ ms 0).xs) (j2:Int)).v] 200::vk 3 oa oc o::vk 198 ah ai M::e8 b1 [e7 nd,.slice ea es.length ec] 38::vc 3 (.slice ba bs.length bc) (List.set aa (e_ ms 0).toNat ((min (ad:Int)<|e_ aa<|e_ ms 0)))::(rgI M++I)) Az<|ch6 (b:=ae) (qs:=ps) (i:=(e_ ((e_ M<|e_ ms 0).xs) (j2:Int)).u) olp) λav ar=>?_
   refine Ar<|A0 (S8 16 1 5 6 7 84 85 86)<|A6<|Gm C<|Gr (B5 B7 ty2 C C om om)<|Gl ef ?_
   refine Gc2 (Cx c_ C C C<|Ck (J:=vk 3 av ar (ps++[(e_ ((e_ M<|e_ ms 0).xs) (j2:Int)).u])::e8 ae [.slice av (ps++[(e_ ((e_ M<|e_ ms 0).xs) (j2:Int)).u]).length ar] 22::e8 ax [e7 ((e_ ((e_ M<|e_ ms 0).xs) (j2:Int)).u),e7<|(e_ ((e_ M<|e_ ms 0).xs) (j2:Int)).v] 200::vk 3 oa oc o::vk 198 ah ai M::e8 b1 [e7 nd,.slice ea es.length ec] 38::vc 3 (.slice ba bs.length bc) (List.set aa (e_ ms 0).toNat ((min (ad:Int)<|e_ aa<|e_ ms 0)))::(rgI M++I)) Az<|ch6 (b:=ae) (qs:=ps++[(e_ ((e_ M<|e_ ms 0).xs) (j2:Int)).u]) (i:=(e_ ((e_ M<|e_ ms 0).xs) (j2:Int)).v) olp) λa4 az=>?_
   exact Bq<|Au<|Ak<|A6<|Gr (Rad C C)<|Gm C<|Bq<|Bu ((j2+1),(a4),(az),((ps++[(e_ ((e_ M<|e_ ms 0).xs) (j2:Int)).u])++[(e_ ((e_ M<|e_ ms 0).xs) (j2:Int)).v]))<|by dsimp only;exact ⟨om,(by rw [cg5 _ om,←Fv,←aw];simp)⟩
  refine Cg<|Aw<|Aw<|Bi<|Au ?_
  have bk:min (ad:Int) (e_ aa<|e_ ms 0)=(ad:Int):=by omega
  have aq:am6 (G2 nd es) (j5 nd es) (List.set aa (e_ ms 0).toNat ((min (ad:Int)<|e_ aa<|e_ ms 0))) (ps):=by rw [bk,aw,show j2=(e_ M<|e_ ms 0).xs.length by omega,Hg,ap];exact a0.sink (dr7 hG) (bv1 hG) a1 om
  have bw:=dc9 aq
  have a9:(List.set aa (e_ ms 0).toNat ((min (ad:Int)<|e_ aa<|e_ ms 0))).sum=aa.sum - e_ aa (e_ ms 0)+min (ad:Int) (e_ aa<|e_ ms 0):=by rw [az5 om om]
  exact Bu ((List.set aa (e_ ms 0).toNat ((min (ad:Int)<|e_ aa<|e_ ms 0))),(pa),(pc),(ps))<|by dsimp only;exact ⟨aq,om⟩
 refine Bc<|Au ?_
 have aq:am6 (G2 nd es) (j5 nd es) aa (List.drop 1 ms):=a0.pass a1 om
 have a9:(List.drop 1 ms).length=ms.length - 1:=by rw [Gb]
 exact Bu ((aa),(aj),(ak),(List.drop 1 ms))<|by dsimp only;exact ⟨aq,om⟩
section
variable {nd:Int}{es es':List Pt}{u v:Int}
theorem ap4(M:s8 nd es)(hj:j<es.length):((bo7 nd es (e_ es j):Nat):Int)=e_ (j5 nd es) j:=by
 unfold bo7
 rw [idx_eq M hj]
 have:=ap2 M (i:=(j:Int)) om om
 omega
structure NxE (nd:Int) (es':List Pt) (k:Nat) (x:Int):Prop where
 low:0<=e_ (j5 nd es') k/\e_ (j5 nd es') k<=x
 up:x<=100
theorem ak1(M:s8 nd es)(hj:j<es.length):0<=e_ (j5 nd es) j/\e_ (j5 nd es) j<=64:=by
 have h1:=ak2 M (u:=(j:Int)) om (by rw [G4 M];omega)
 have:=M.rng
 omega
theorem as0(hG:s8 nd es)(M:s8 nd es')(hk:k<es'.length)(h:at4 nd es (e_ es' k).u (e_ es' k).v y):(0<=y/\y<es.length/\e_ es y=e_ es' k)\/(y = -1/\e_ es' k∉es):=by
 have hm:=Bo (xs:=es') (i:=(k:Int)) om om
 have hs:=K9 (e:=e_ es' k) (by have:=M.aa9 _ hm;omega)
 unfold at4 at h
 rw [hs] at h
 rcases h with ⟨_,j,rfl,hj,e⟩|⟨rfl,h1|h1⟩
 ·exact .inl ⟨by omega,by omega,e⟩
 ·exact absurd (s4.2 hG) h1
 exact .inr ⟨rfl,h1⟩
theorem fx2(h:R7 nd es es' u v)(hk:k<es'.length)(hf:at4 nd es (e_ es' k).u (e_ es' k).v y)(hy:y<0):NxE nd es' k ((j3 nd es' u v).length:Int):=by
 have hm:=Bo (xs:=es') (i:=(k:Int)) om om
 rcases as0 h.ok h.ok' hk hf with M|⟨_,M⟩
 ·omega
 have e:=((h.mem _).1 hm).resolve_left M
 have h2:=h.db0
 have h3:=ap4 h.ok' hk
 rw [e] at h3
 have h4:=ap2 h.ok' (i:=(k:Int)) om om
 have h5:=M3 nd es' u v
 exact ⟨by omega,by omega⟩
theorem fx3(h:R7 nd es es' u v)(M:k<es'.length)(hf:at4 nd es (e_ es' k).u (e_ es' k).v y)(hy:¬y<0):NxE nd es' k (e_ (j5 nd es) y+1):=by
 rcases as0 h.ok h.ok' M hf with ⟨h0,h1,e⟩|h1
 ·obtain ⟨j,rfl⟩:=Hq h0
  have hj:j<es.length:=by omega
  have h2:=(h.fu4 (e:=e_ es j)<|Bo om om).2
  have h3:=ap4 h.ok' M
  rw [←e] at h3
  have h4:=ap4 h.ok hj
  have h5:=ap2 h.ok' (i:=(k:Int)) om om
  have h6:=ak1 h.ok hj
  exact ⟨by omega,by omega⟩
 omega
theorem fi2(h:R7 nd es es' u v)(hk:k<es.length)(hf:at4 nd es' (e_ es k).u (e_ es k).v y):0<=y/\NxE nd es k (e_ (j5 nd es') y):=by
 have M:=Bo (xs:=es) (i:=(k:Int)) om om
 rcases as0 h.ok' h.ok hk hf with ⟨h0,h1,e⟩|⟨_,h1⟩
 ·obtain ⟨j,rfl⟩:=Hq h0
  have hj:j<es'.length:=by omega
  have h2:=(h.fu4 M).1
  have h3:=ap4 h.ok hk
  have h4:=ap4 h.ok' hj
  rw [e] at h4
  have h5:=ap2 h.ok (i:=(k:Int)) om om
  have h6:=ak1 h.ok' hj
  exact ⟨h0,⟨by omega,by omega⟩⟩
 exact absurd ((h.mem _).2 (.inl M)) h1
structure NxI (nd:Int) (es':List Pt) (k:Nat) (b:List Int):Prop where
 len:b.length=k
 val:∀i:Nat,i<k->NxE nd es' i (e_ b i)
theorem NxI.zero:NxI nd es' 0 []:=⟨rfl,λi h=>absurd h (Nat.not_lt_zero _)⟩
theorem NxI.next{x:Int}(h:NxI nd es' k b)(M:NxE nd es' k x):NxI nd es' (k+1) (b++[x]):=⟨by rw [By,h.len];rfl,λi hi=>by
 by_cases e:i<k
 ·have e1:e_ (b++[x]) i=e_ b i:=by rw [Ct _ i (by rw [By,h.len];omega),Ct _ i<|by rw [h.len];exact e,List.getElem_append_left]
  rw [e1];exact h.val i e
 have e2:i=b.length:=by rw [h.len];omega
 have e1:e_ (b++[x]) i=x:=by subst e2;rw [Ct _ _ (by simp)];simp
 rw [e1,show i=k by omega];exact M⟩
theorem NxI.all(h:NxI nd es' es'.length b):TrB nd es' b/\∀x∈b,0<=x/\x<=1000:=by
 refine ⟨⟨h.len,λi h0 M=>?_⟩,λx hx=>?_⟩
 ·obtain ⟨j,rfl⟩:=Hq h0
  exact (h.val j om).low
 obtain ⟨j,hj,rfl⟩:=av6 hx
 rw [h.len] at hj
 have M:=h.val j hj
 have h2:=M.low
 have h3:=M.up
 omega
theorem df0(h:R7 nd es es' u v):es'.length=es.length+1:=by
 have M:es'.Perm (j4 u v::es):=(Ht (Fi h.ok'.asc)<|Jb.2 ⟨h.no,Fi h.ok.asc⟩).2 λp=>by rw [h.mem,F_];exact Or.comm
 rw [M.length_eq];rfl
end
theorem ba9{nd:Int}{M:Option Addr}{es:List Pt}{bs:List Int}(hl:Sl κ I (.slice ea es.length ec) es)(hG:s8 nd es)(hB:TrB nd es bs)(aa:∀x∈bs,0<=x/\x<=1000)(hT:F4 κ I 0 p5):eu prog κ 288 [.agg #[e7 nd,.slice ea es.length ec],.slice M bs.length bc] (vk 3 M bc bs::I) λr J=>r = .slice M (j5 nd es).length bc/\J=vk 3 M bc (j5 nd es)::I:=by
 have e:bs.length=(j5 nd es).length:=by rw [G4 hG];exact hB.len
 exact (fq3 hl hG hB aa hT).mono λr J h=>⟨h.1.trans<|by rw [e],h.2.trans<|by rw [e]⟩
theorem fe1{nd u v:Int}{es es':List Pt}(hl:Sl κ I (.slice ea es.length ec) es)(hm:Sl κ I (.slice na (j5 nd es).length nc) (j5 nd es))(M:Sl κ I (.slice ga es'.length gc) es')(h:R7 nd es es' u v)(hT:F4 κ I 0 p5):eu prog κ 287 [.agg #[e7 nd,.slice ea es.length ec,.slice na (j5 nd es).length nc],.agg #[e7 nd,.slice ga es'.length gc],e7 u,e7 v] I (λr J=>∃(a:Option Addr) (c:Nat) (w:Value),r = .tuple #[.agg #[e7 nd,.slice ga es'.length gc,.slice a (j5 nd es').length c],w]/\J=vk 3 a c (j5 nd es')::I):=by
 have bb:=q9 h.ok
 have az:=q9 h.ok'
 have a3:=df0 h
 have ae:=G4 h.ok
 have ab:=G4 h.ok'
 refine Ce4 Tryz.func287 C C ?_
 refine Al<|Ge1 (Av (cs:=[_,_,_]) C C C) λb1=>Ge1 (Av (cs:=[_,_]) C C C) λb2=>Ge1 (Aj L6 C) λb3=>Ga C<|Ar<|Al<|Gf K6 C<|Gl am7 ?_
 refine Gr (Bn Ay C)<|Gf bf0 C<|Gf K6 C<|Gl am7 ?_
 refine Gr (Bn Ay C)<|Gr (Dc C C)<|Ga C<|Ar<|A0 (S6 10 8 5 4 2 3)<|Al<|Ga C<|Ar<|Ax<|Al<|Gf K6 C<|Gl am7 ?_
 refine Gr (Bn Ay C)<|Gm C<|Ar<|A7<|B9 (σ:=Nat×(Option Addr)×Nat×(List Int)) (λs=>([(2,e7 u),(3,e7 v),(4,pt b1),(5,pt b2),(8,pt b3),(10,.bool<|decide<|((es.length:Nat):Int)<((es'.length:Nat):Int)),(11,.slice s.2.1 s.2.2.2.length s.2.2.1),(25,.slice ga es'.length gc),(26,e7<|((es'.length:Nat):Int)),(27,e7 ((s.1:Nat):Int))]:Env)) (λs=>vk 3 s.2.1 s.2.2.1 s.2.2.2::e8 b3 [e7 0,.slice none 0 0,.slice none 0 0] 41::e8 b2 [e7 nd,.slice ga es'.length gc] 38::e8 b1 [e7 nd,.slice ea es.length ec,.slice na (j5 nd es).length nc] 41::I) (λs=>(s.1<=es'.length)/\(NxI nd es' s.1 s.2.2.2)) (λs=>es'.length - s.1) (0,none,0,([]:List Int)) ⟨om,NxI.zero⟩ (cx4<|cx2<|Aa (Da C<|by first|rfl|simp)<|cx2<|Aa Cl Bb) (A9 (show Fit κ _ _ from Az)<|B6 (α:=Int) _ _) ?_
 rintro ⟨k,ba,bc,bd⟩ hp
 dsimp only at hp ⊢
 obtain ⟨hk,hb⟩:=hp
 have a7:=hb.len
 refine Al<|Gr (Bm C C)<|Ar<|Ax<|Ao C (λau=>?_)<|λau=>?_
 ·refine Bc (Ak<|Ax<|A7<|Al<|Gr (A1 (α:=Pt) (xs:=es') Ay s9 C C (A3 M) om<|by first|omega|(rcases aa with ⟨q1,q2,q3⟩|q1<;>omega))<|Gr (C7 (α:=Pt) (xs:=es') s9 C (A3 M) om<|by first|omega|(rcases aa with ⟨q1,q2,q3⟩|q1<;>omega))<|Ge1 (Aj s9 C) λb4=>Ge0 (Co s9) ?_)
  refine Ar<|A0 (S11 13 2 3 4 5 8 10 11 25 26 27)<|Al<|Gf bf0 C<|Gl2 K0 ?_
  refine Gf P0 C<|Gl ef ?_
  refine Gf N9 C<|Gl ef ?_
  refine G.e (Ab c_ C C<|at5 (nd:=nd) (A3 hl) ((e_ es' k).u) ((e_ es' k).v) om) ?_
  rintro _ _ ⟨_,_,⟨y5,rfl,aj,rfl⟩,rfl,rfl⟩
  refine Ga C ?_
  have aa:=as0 h.ok h.ok' om aj
  have ah:=λq:0<=y5/\y5<es.length=>ak1 h.ok (j:=(y5).toNat) om
  have ai:=λq:0<=y5=>show (((y5).toNat:Nat):Int)=y5 from Hb q
  refine Ar<|A0 (S11 14 2 3 4 5 8 10 11 25 26 27)<|A7<|Al<|Gm C<|Gr (Bm C C)<|Ga C<|Ar<|A0 (S12 46 14 2 3 4 5 8 10 11 25 26 27 C C C C C C C C C C C C)<|Ao C (λan=>?_)<|λan=>?_
  ·refine A6 (Gm C<|Gl2 K0 ?_)
   refine Gm C<|Gm C<|Gc2 (Ab c_ C C<|bo0 (nd:=nd) (A3 M) u v<|Ba hT Ah) λbe a6=>?_
   have ak:=fx2 h om aj an
   refine Gr (Bn Ac C)<|Ge1 (B1 (α:=Int) (cs:=[_]) (xs:=[(((j3 nd es' u v).length:Nat):Int)]) Ac ef C C dc dc C C C C) λa8=>?_
   refine Ge2 (Bs (α:=Int) (e:=3) (xs:=bd) (ys:=([(((j3 nd es' u v).length:Nat):Int)]:List Int)) Ac ef C C C mm A5 lcn dc C<|λ_ _=>am) λav aq=>?_
   exact Ga C<|Bq<|Au<|Au<|Ak<|A0 (S10 11 2 3 4 5 8 10 25 26 27)<|A6<|Gr (Cv C C<|by first|(unfold InR;omega)|rcases aa with ⟨q1,q2,q3⟩|q1;(· have q4:=ah ⟨q1,q2⟩;rw [ai q1] at q4;unfold InR;omega);(· omega))<|Gm C<|Bq<|Bu ((k+1),(av),(aq),(bd++([(((j3 nd es' u v).length:Nat):Int)]:List Int)))<|by dsimp only;exact ⟨om,(hb.next ak)⟩
  refine Al<|Gm C<|Ga C<|Ar<|A0 (S12 57 14 2 3 4 5 8 10 11 25 26 27 C C C C C C C C C C C C)<|Ao C (λax=>?_)<|λax=>?_
  ·refine A6 (Gm C<|Gf cf7 C<|Gl W4 ?_)
   refine Gm C<|Gr (A1 (α:=Int) (xs:=j5 nd es) Ac ef C C (A3 hm) om<|by first|omega|(rcases aa with ⟨q1,q2,q3⟩|q1<;>omega))<|Gr (B8 (xs:=j5 nd es) ef C (A3 hm) om<|by first|omega|(rcases aa with ⟨q1,q2,q3⟩|q1<;>omega)) ?_
   have ak:=fx3 h om aj an
   refine Gr (Cv C C<|by first|(unfold InR;omega)|rcases aa with ⟨q1,q2,q3⟩|q1;(· have q4:=ah ⟨q1,q2⟩;rw [ai q1] at q4;unfold InR;omega);(· omega))<|Ge1 (B1 (α:=Int) (cs:=[_]) (xs:=[(e_ (j5 nd es) y5)+1]) Ac ef C C dc dc C C C C) λa0=>?_
   refine Ge2 (Bs (α:=Int) (e:=3) (xs:=bd) (ys:=([(e_ (j5 nd es) y5)+1]:List Int)) Ac ef C C C mm A5 lcn dc C<|λ_ _=>am) λao ap=>?_
   exact Ga C<|Bq<|Au<|Au<|Ak<|A0 (S10 11 2 3 4 5 8 10 25 26 27)<|A6<|Gr (Cv C C<|by first|(unfold InR;omega)|rcases aa with ⟨q1,q2,q3⟩|q1;(· have q4:=ah ⟨q1,q2⟩;rw [ai q1] at q4;unfold InR;omega);(· omega))<|Gm C<|Bq<|Bu ((k+1),(ao),(ap),(bd++([(e_ (j5 nd es) y5)+1]:List Int)))<|by dsimp only;exact ⟨om,(hb.next ak)⟩
  omega
 refine Cg<|Aw<|Aw<|Bi<|Ak<|Ax<|A8 mixed<|Bv (e8 b3 [e7 0,.slice none 0 0,.slice none 0 0] 41::e8 b2 [e7 nd,.slice ga es'.length gc] 38::e8 b1 [e7 nd,.slice ea es.length ec,.slice na (j5 nd es).length nc] 41::I) 6<|Dr 0 C (Bl (vs:=[_,_]) K0) ?_
 have ay:k=es'.length:=by omega
 rw [ay] at hb
 have ad:=hb.all
 refine Dr 1 C (Bl (vs:=[_,_]) K0) ?_
 refine Dr 2 C (Ap C)<|C5 (rs:=[3,5]) kr C C<|D5 ?_<|Dl ?_
 ·refine Se C (Ab c_ C C<|Ck (J:=vk 3 ba bc bd::e8 b3 [e7 0,.slice none 0 0,.slice none 0 0] 41::e8 b2 [e7 nd,.slice ga es'.length gc] 38::e8 b1 [e7 nd,.slice ea es.length ec,.slice na (j5 nd es).length nc] 41::I) Az<|ba9 (nd:=nd) (es:=es') (bs:=bd) (A3 M) h.ok' ad.1 ad.2<|Ba hT Ah) ?_
  rintro _ _ ⟨_,_,⟨rfl,rfl⟩,rfl,rfl⟩
  refine ⟨Az,?_⟩
  refine Dr 4 C (Cn (cells:=[_,_,_]) L6 Ew fw2 C C)<|Ds1 5<|Se1 C (Aj L6 C) λar=>?_
  refine Ch kr ?_
  refine Ae 6 C (Db L6) ?_
  rintro _ _ ⟨rfl,rfl⟩
  refine Ci kr ?_
  refine Ak<|A0 (S3 15 4 8)<|Ax<|A8 mixed<|Bv (e8 ar [e7 nd,.slice ga es'.length gc,.slice ba (j5 nd es').length bc] 41::vk 3 ba bc (j5 nd es')::e8 b3 [e7 0,.slice none 0 0,.slice none 0 0] 41::e8 b2 [e7 nd,.slice ga es'.length gc] 38::e8 b1 [e7 nd,.slice ea es.length ec,.slice na (j5 nd es).length nc] 41::I) 4<|Dr 0 C (Bl (vs:=[_,_,_]) L6) ?_
  refine C5 (rs:=[1,2]) kr C C<|D5 ?_<|Dl ?_
  ·refine Sr C (Bl (vs:=[_,_,_]) L6) Ai ?_
   refine Ds1 2<|Sr C (Bl (vs:=[_,_,_]) L6) Ai ?_
   refine Ds1 3<|Se C (Ab c_ C C<|P4 (nd:=nd) (nd':=nd) (es:=es) (es':=es') (num:=j5 nd es) (num':=j5 nd es') (A3 hl) (A3 hm) (A3 M) A5 om om ae ab) ?_
   rintro _ _ ⟨_,_,⟨a4,rfl,rfl⟩,rfl,rfl⟩
   refine ⟨Ai,?_⟩
   refine Ch kr ?_
   refine Ae 4 C (Db L6) ?_
   rintro _ _ ⟨rfl,rfl⟩
   refine Di (i:=5) kr C (Aq C) C C (Bj C) ?_
   refine Ci kr ?_
   exact Ak<|B3<|Cp C L6 C C mm C (vk 3 ba bc (j5 nd es')::I) Az ⟨ba,bc,_,rfl,rfl⟩
  refine Sr C (Bl (vs:=[_,_,_]) L6) Ai ?_
  refine Ds1 1<|Sr C (Bl (vs:=[_,_,_]) L6) Ai ?_
  refine Ds1 3<|Se C (Ab c_ C C<|P4 (nd:=nd) (nd':=nd) (es:=es) (es':=es') (num:=j5 nd es) (num':=j5 nd es') (A3 hl) (A3 hm) (A3 M) A5 om om ae ab) ?_
  rintro _ _ ⟨_,_,⟨a9,rfl,rfl⟩,rfl,rfl⟩
  refine ⟨Ai,?_⟩
  refine Ch kr ?_
  refine Ae 4 C (Db L6) ?_
  rintro _ _ ⟨rfl,rfl⟩
  refine Di (i:=5) kr C (Aq C) C C (Bj C) ?_
  refine Ci kr ?_
  exact Ak<|B3<|Cp C L6 C C mm C (vk 3 ba bc (j5 nd es')::I) Az ⟨ba,bc,_,rfl,rfl⟩
 refine Se1 C (Aj L6 C) λaw=>?_
 refine Ds1 3<|Se C (Ab c_ C C<|Ck (J:=vk 3 ba bc bd::e8 aw [e7 0,.slice none 0 0,.slice none 0 0] 41::e8 b3 [e7 0,.slice none 0 0,.slice none 0 0] 41::e8 b2 [e7 nd,.slice ga es'.length gc] 38::e8 b1 [e7 nd,.slice ea es.length ec,.slice na (j5 nd es).length nc] 41::I) Az<|ba9 (nd:=nd) (es:=es') (bs:=bd) (A3 M) h.ok' ad.1 ad.2<|Ba hT Ah) ?_
 rintro _ _ ⟨_,_,⟨rfl,rfl⟩,rfl,rfl⟩
 refine ⟨Az,?_⟩
 refine Dr 4 C (Cn (cells:=[_,_,_]) L6 Ew fw2 C C)<|Ch kr ?_
 refine Ae 6 C (Db L6) ?_
 rintro _ _ ⟨rfl,rfl⟩
 refine Ci kr ?_
 refine Ak<|A0 (S3 15 4 8)<|Ax<|A8 mixed<|Ee 4<|Dr 0 C (Bl (vs:=[_,_,_]) L6) ?_
 refine C5 (rs:=[1,2]) kr C C<|D5 ?_<|Dl ?_
 ·refine Sr C (Bl (vs:=[_,_,_]) L6) Ai ?_
  refine Ds1 2<|Sr C (Bl (vs:=[_,_,_]) L6) Ai ?_
  refine Ds1 3<|Se C (Ab c_ C C<|P4 (nd:=nd) (nd':=nd) (es:=es) (es':=es') (num:=j5 nd es) (num':=j5 nd es') (A3 hl) (A3 hm) (A3 M) A5 om om ae ab) ?_
  rintro _ _ ⟨_,_,⟨a1,rfl,rfl⟩,rfl,rfl⟩
  refine ⟨Ai,?_⟩
  refine Ch kr ?_
  refine Ae 4 C (Db L6) ?_
  rintro _ _ ⟨rfl,rfl⟩
  refine Di (i:=5) kr C (Aq C) C C (Bj C) ?_
  refine Ci kr ?_
  exact Ak<|B3<|Cp C L6 C C mm C (vk 3 ba bc (j5 nd es')::I) Az ⟨ba,bc,_,rfl,rfl⟩
 refine Sr C (Bl (vs:=[_,_,_]) L6) Ai ?_
 refine Ds1 1<|Sr C (Bl (vs:=[_,_,_]) L6) Ai ?_
 refine Ds1 3<|Se C (Ab c_ C C<|P4 (nd:=nd) (nd':=nd) (es:=es) (es':=es') (num:=j5 nd es) (num':=j5 nd es') (A3 hl) (A3 hm) (A3 M) A5 om om ae ab) ?_
 rintro _ _ ⟨_,_,⟨a5,rfl,rfl⟩,rfl,rfl⟩
 refine ⟨Ai,?_⟩
 refine Ch kr ?_
 refine Ae 4 C (Db L6) ?_
 rintro _ _ ⟨rfl,rfl⟩
 refine Di (i:=5) kr C (Aq C) C C (Bj C) ?_
 refine Ci kr ?_
 exact Ak<|B3<|Cp C L6 C C mm C (vk 3 ba bc (j5 nd es')::I) Az ⟨ba,bc,_,rfl,rfl⟩
theorem fe2{nd u v:Int}{es es':List Pt}(hl:Sl κ I (.slice ea es.length ec) es)(hm:Sl κ I (.slice na (j5 nd es).length nc) (j5 nd es))(M:Sl κ I (.slice ga es'.length gc) es')(h:R7 nd es' es u v)(hT:F4 κ I 0 p5):eu prog κ 287 [.agg #[e7 nd,.slice ea es.length ec,.slice na (j5 nd es).length nc],.agg #[e7 nd,.slice ga es'.length gc],e7 u,e7 v] I (λr J=>∃(a:Option Addr) (c:Nat) (w:Value),r = .tuple #[.agg #[e7 nd,.slice ga es'.length gc,.slice a (j5 nd es').length c],w]/\J=vk 3 a c (j5 nd es')::I):=by
 have a0:=q9 h.ok'
 have aw:=q9 h.ok
 have a4:=df0 h
 have ae:=G4 h.ok'
 have aa:=G4 h.ok
 refine Ce4 Tryz.func287 C C ?_
 refine Al<|Ge1 (Av (cs:=[_,_,_]) C C C) λb1=>Ge1 (Av (cs:=[_,_]) C C C) λb2=>Ge1 (Aj L6 C) λb3=>Ga C<|Ar<|Al<|Gf K6 C<|Gl am7 ?_
 refine Gr (Bn Ay C)<|Gf bf0 C<|Gf K6 C<|Gl am7 ?_
 refine Gr (Bn Ay C)<|Gr (Dc C C)<|Ga C<|Ar<|A0 (S6 10 8 5 4 2 3)<|Al<|Ga C<|Ar<|Ax<|Al<|Gf K6 C<|Gl am7 ?_
 refine Gr (Bn Ay C)<|Gm C<|Ar<|A7<|B9 (σ:=Nat×(Option Addr)×Nat×(List Int)) (λs=>([(2,e7 u),(3,e7 v),(4,pt b1),(5,pt b2),(8,pt b3),(10,.bool<|decide<|((es.length:Nat):Int)<((es'.length:Nat):Int)),(11,.slice s.2.1 s.2.2.2.length s.2.2.1),(25,.slice ga es'.length gc),(26,e7<|((es'.length:Nat):Int)),(27,e7 ((s.1:Nat):Int))]:Env)) (λs=>vk 3 s.2.1 s.2.2.1 s.2.2.2::e8 b3 [e7 0,.slice none 0 0,.slice none 0 0] 41::e8 b2 [e7 nd,.slice ga es'.length gc] 38::e8 b1 [e7 nd,.slice ea es.length ec,.slice na (j5 nd es).length nc] 41::I) (λs=>(s.1<=es'.length)/\(NxI nd es' s.1 s.2.2.2)) (λs=>es'.length - s.1) (0,none,0,([]:List Int)) ⟨om,NxI.zero⟩ (cx4<|cx2<|Aa (Da C<|by first|rfl|simp)<|cx2<|Aa Cl Bb) (A9 (show Fit κ _ _ from Az)<|B6 (α:=Int) _ _) ?_
 rintro ⟨k,ba,bc,bd⟩ hp
 dsimp only at hp ⊢
 obtain ⟨hk,hb⟩:=hp
 have az:=hb.len
 refine Al<|Gr (Bm C C)<|Ar<|Ax<|Ao C (λaq=>?_)<|λaq=>?_
 ·refine Bc (Ak<|Ax<|A7<|Al<|Gr (A1 (α:=Pt) (xs:=es') Ay s9 C C (A3 M) om<|by first|omega|(rcases ab with ⟨q1,q2,q3⟩|q1<;>omega))<|Gr (C7 (α:=Pt) (xs:=es') s9 C (A3 M) om<|by first|omega|(rcases ab with ⟨q1,q2,q3⟩|q1<;>omega))<|Ge1 (Aj s9 C) λb4=>Ge0 (Co s9) ?_)
  refine Ar<|A0 (S11 13 2 3 4 5 8 10 11 25 26 27)<|Al<|Gf bf0 C<|Gl2 K0 ?_
  refine Gf P0 C<|Gl ef ?_
  refine Gf N9 C<|Gl ef ?_
  refine G.e (Ab c_ C C<|at5 (nd:=nd) (A3 hl) ((e_ es' k).u) ((e_ es' k).v) om) ?_
  rintro _ _ ⟨_,_,⟨y5,rfl,ah,rfl⟩,rfl,rfl⟩
  refine Ga C ?_
  have ab:=as0 h.ok' h.ok om ah
  have ai:=λq:0<=y5/\y5<es.length=>ak1 h.ok' (j:=(y5).toNat) om
  have ap:=λq:0<=y5=>show (((y5).toNat:Nat):Int)=y5 from Hb q
  refine Ar<|A0 (S11 14 2 3 4 5 8 10 11 25 26 27)<|A7<|Al<|Gm C<|Gr (Bm C C)<|Ga C<|Ar<|A0 (S12 46 14 2 3 4 5 8 10 11 25 26 27 C C C C C C C C C C C C)<|Ao C (λav=>?_)<|λav=>?_
  ·exact absurd (fi2 h om ah).1 om
  refine Al<|Gm C<|Ga C<|Ar<|A0 (S12 57 14 2 3 4 5 8 10 11 25 26 27 C C C C C C C C C C C C)<|Ao C (λan=>?_)<|λan=>?_
  ·omega
  refine A6<|Gm C<|Gf cf7 C<|Gl W4 ?_
  refine Gm C<|Gr (A1 (α:=Int) (xs:=j5 nd es) Ac ef C C (A3 hm) om<|by first|omega|(rcases ab with ⟨q1,q2,q3⟩|q1<;>omega))<|Gr (B8 (xs:=j5 nd es) ef C (A3 hm) om<|by first|omega|(rcases ab with ⟨q1,q2,q3⟩|q1<;>omega)) ?_
  have ak:=(fi2 h om ah).2
  refine Ge1 (B1 (α:=Int) (cs:=[_]) (xs:=[e_ (j5 nd es) y5]) Ac ef C C dc dc C C C C) λa1=>?_
  refine Ge2 (Bs (α:=Int) (e:=3) (xs:=bd) (ys:=([e_ (j5 nd es) y5]:List Int)) Ac ef C C C mm A5 lcn dc C<|λ_ _=>am) λar aj=>?_
  exact Ga C<|Bq<|Au<|Au<|Ak<|A0 (S10 11 2 3 4 5 8 10 25 26 27)<|A6<|Gr (Cv C C<|by first|(unfold InR;omega)|rcases ab with ⟨q1,q2,q3⟩|q1;(· have q4:=ai ⟨q1,q2⟩;rw [ap q1] at q4;unfold InR;omega);(· omega))<|Gm C<|Bq<|Bu ((k+1),(ar),(aj),(bd++([e_ (j5 nd es) y5]:List Int)))<|by dsimp only;exact ⟨om,(hb.next ak)⟩
 refine Cg<|Aw<|Aw<|Bi<|Ak<|Ax<|A8 mixed<|Bv (e8 b3 [e7 0,.slice none 0 0,.slice none 0 0] 41::e8 b2 [e7 nd,.slice ga es'.length gc] 38::e8 b1 [e7 nd,.slice ea es.length ec,.slice na (j5 nd es).length nc] 41::I) 6<|Dr 0 C (Bl (vs:=[_,_]) K0) ?_
 have ao:k=es'.length:=by omega
 rw [ao] at hb
 have ad:=hb.all
 refine Dr 1 C (Bl (vs:=[_,_]) K0) ?_
 refine Dr 2 C (Ap C)<|C5 (rs:=[3,5]) kr C C<|D5 ?_<|Dl ?_
 ·refine Se C (Ab c_ C C<|Ck (J:=vk 3 ba bc bd::e8 b3 [e7 0,.slice none 0 0,.slice none 0 0] 41::e8 b2 [e7 nd,.slice ga es'.length gc] 38::e8 b1 [e7 nd,.slice ea es.length ec,.slice na (j5 nd es).length nc] 41::I) Az<|ba9 (nd:=nd) (es:=es') (bs:=bd) (A3 M) h.ok ad.1 ad.2<|Ba hT Ah) ?_
  rintro _ _ ⟨_,_,⟨rfl,rfl⟩,rfl,rfl⟩
  refine ⟨Az,?_⟩
  refine Dr 4 C (Cn (cells:=[_,_,_]) L6 Ew fw2 C C)<|Ds1 5<|Se1 C (Aj L6 C) λb9=>?_
  refine Ch kr ?_
  refine Ae 6 C (Db L6) ?_
  rintro _ _ ⟨rfl,rfl⟩
  refine Ci kr ?_
  refine Ak<|A0 (S3 15 4 8)<|Ax<|A8 mixed<|Bv (e8 b9 [e7 nd,.slice ga es'.length gc,.slice ba (j5 nd es').length bc] 41::vk 3 ba bc (j5 nd es')::e8 b3 [e7 0,.slice none 0 0,.slice none 0 0] 41::e8 b2 [e7 nd,.slice ga es'.length gc] 38::e8 b1 [e7 nd,.slice ea es.length ec,.slice na (j5 nd es).length nc] 41::I) 4<|Dr 0 C (Bl (vs:=[_,_,_]) L6) ?_
  refine C5 (rs:=[1,2]) kr C C<|D5 ?_<|Dl ?_
  ·refine Sr C (Bl (vs:=[_,_,_]) L6) Ai ?_
   refine Ds1 2<|Sr C (Bl (vs:=[_,_,_]) L6) Ai ?_
   refine Ds1 3<|Se C (Ab c_ C C<|P4 (nd:=nd) (nd':=nd) (es:=es) (es':=es') (num:=j5 nd es) (num':=j5 nd es') (A3 hl) (A3 hm) (A3 M) A5 om om ae aa) ?_
   rintro _ _ ⟨_,_,⟨a5,rfl,rfl⟩,rfl,rfl⟩
   refine ⟨Ai,?_⟩
   refine Ch kr ?_
   refine Ae 4 C (Db L6) ?_
   rintro _ _ ⟨rfl,rfl⟩
   refine Di (i:=5) kr C (Aq C) C C (Bj C) ?_
   refine Ci kr ?_
   exact Ak<|B3<|Cp C L6 C C mm C (vk 3 ba bc (j5 nd es')::I) Az ⟨ba,bc,_,rfl,rfl⟩
  refine Sr C (Bl (vs:=[_,_,_]) L6) Ai ?_
  refine Ds1 1<|Sr C (Bl (vs:=[_,_,_]) L6) Ai ?_
  refine Ds1 3<|Se C (Ab c_ C C<|P4 (nd:=nd) (nd':=nd) (es:=es) (es':=es') (num:=j5 nd es) (num':=j5 nd es') (A3 hl) (A3 hm) (A3 M) A5 om om ae aa) ?_
  rintro _ _ ⟨_,_,⟨ay,rfl,rfl⟩,rfl,rfl⟩
  refine ⟨Ai,?_⟩
  refine Ch kr ?_
  refine Ae 4 C (Db L6) ?_
  rintro _ _ ⟨rfl,rfl⟩
  refine Di (i:=5) kr C (Aq C) C C (Bj C) ?_
  refine Ci kr ?_
  exact Ak<|B3<|Cp C L6 C C mm C (vk 3 ba bc (j5 nd es')::I) Az ⟨ba,bc,_,rfl,rfl⟩
 refine Se1 C (Aj L6 C) λau=>?_
 refine Ds1 3<|Se C (Ab c_ C C<|Ck (J:=vk 3 ba bc bd::e8 au [e7 0,.slice none 0 0,.slice none 0 0] 41::e8 b3 [e7 0,.slice none 0 0,.slice none 0 0] 41::e8 b2 [e7 nd,.slice ga es'.length gc] 38::e8 b1 [e7 nd,.slice ea es.length ec,.slice na (j5 nd es).length nc] 41::I) Az<|ba9 (nd:=nd) (es:=es') (bs:=bd) (A3 M) h.ok ad.1 ad.2<|Ba hT Ah) ?_
 rintro _ _ ⟨_,_,⟨rfl,rfl⟩,rfl,rfl⟩
 refine ⟨Az,?_⟩
 refine Dr 4 C (Cn (cells:=[_,_,_]) L6 Ew fw2 C C)<|Ch kr ?_
 refine Ae 6 C (Db L6) ?_
 rintro _ _ ⟨rfl,rfl⟩
 refine Ci kr ?_
 refine Ak<|A0 (S3 15 4 8)<|Ax<|A8 mixed<|Ee 4<|Dr 0 C (Bl (vs:=[_,_,_]) L6) ?_
 refine C5 (rs:=[1,2]) kr C C<|D5 ?_<|Dl ?_
 ·refine Sr C (Bl (vs:=[_,_,_]) L6) Ai ?_
  refine Ds1 2<|Sr C (Bl (vs:=[_,_,_]) L6) Ai ?_
  refine Ds1 3<|Se C (Ab c_ C C<|P4 (nd:=nd) (nd':=nd) (es:=es) (es':=es') (num:=j5 nd es) (num':=j5 nd es') (A3 hl) (A3 hm) (A3 M) A5 om om ae aa) ?_
  rintro _ _ ⟨_,_,⟨a3,rfl,rfl⟩,rfl,rfl⟩
  refine ⟨Ai,?_⟩
  refine Ch kr ?_
  refine Ae 4 C (Db L6) ?_
  rintro _ _ ⟨rfl,rfl⟩
  refine Di (i:=5) kr C (Aq C) C C (Bj C) ?_
  refine Ci kr ?_
  exact Ak<|B3<|Cp C L6 C C mm C (vk 3 ba bc (j5 nd es')::I) Az ⟨ba,bc,_,rfl,rfl⟩
 refine Sr C (Bl (vs:=[_,_,_]) L6) Ai ?_
 refine Ds1 1<|Sr C (Bl (vs:=[_,_,_]) L6) Ai ?_
 refine Ds1 3<|Se C (Ab c_ C C<|P4 (nd:=nd) (nd':=nd) (es:=es) (es':=es') (num:=j5 nd es) (num':=j5 nd es') (A3 hl) (A3 hm) (A3 M) A5 om om ae aa) ?_
 rintro _ _ ⟨_,_,⟨ax,rfl,rfl⟩,rfl,rfl⟩
 refine ⟨Ai,?_⟩
 refine Ch kr ?_
 refine Ae 4 C (Db L6) ?_
 rintro _ _ ⟨rfl,rfl⟩
 refine Di (i:=5) kr C (Aq C) C C (Bj C) ?_
 refine Ci kr ?_
 exact Ak<|B3<|Cp C L6 C C mm C (vk 3 ba bc (j5 nd es')::I) Az ⟨ba,bc,_,rfl,rfl⟩
end Go.Sl
namespace Go.Sl
open Go.Proofs
set_option maxRecDepth 4000
variable{nd u v:Int}{ea na:Option Addr}{ec nc:Nat}{es:List Pt}
variable {κ:Ctx}{I:List Item}
attribute [local irreducible] W G V D A j8 Eff
theorem cy5(hl:Sl κ I (.slice ea es.length ec) es)(hm:Sl κ I (.slice na (j5 nd es).length nc) (j5 nd es))(hG:s8 nd es)(he:F5 nd u v)(hn:j4 u v∉es)(hT:F4 κ I 0 p5):eu prog κ 283 [.agg #[e7 nd,.slice ea es.length ec,.slice na (j5 nd es).length nc],e7 u,e7 v] I (λr J=>∃(ga:Option Addr) (gc:Nat) (a:Option Addr) (c:Nat) (w:Value),r = .tuple #[.agg #[e7 nd,.slice ga (z8 Pt.lt es (j4 u v)).length gc,.slice a (j5 nd (z8 Pt.lt es (j4 u v))).length c],w,e7 0]/\J=vk 3 a c (j5 nd (z8 Pt.lt es (j4 u v)))::vk 105 ga gc (z8 Pt.lt es (j4 u v))::I):=by
 refine Ce3 Tryz.func283 C C ?_
 refine Al<|Ge1 (Av (cs:=[_,_,_]) C C C) λb1=>Ge1 (Aj L6 C) λb2=>Z ?_
 refine Gc0 (Ab c_ C C<|cb8 (nd:=nd) (u:=u) (v:=v) (A3 hl) (A3 hm) hG he<|Ba hT Ah)<|Z ?_
 refine Ao C (λah=>Z ?_)<|λah=>Z ?_
 ·refine Ge0 (Db L6) (Z ?_)
  exact absurd rfl asm
 refine G.e (Ab c_ C C<|bb3 (nd:=nd) (u:=u) (v:=v) (A3 hl) (add_zero hG he hn)<|by have:=q9 hG;omega) ?_
 rintro _ _ ⟨_,_,⟨ab,aa,rfl,rfl⟩,rfl,rfl⟩
 refine Z ?_
 refine Ge1 (Aj K0 C) λb5=>Ge0 (Co K0)<|Z ?_
 refine Ao C (λae=>Z ?_)<|λae=>Z ?_
 ·refine Ge0 (Db L6) (Z ?_)
  exact absurd rfl asm
 refine G.e (Ab c_ C C<|fe1 (nd:=nd) (u:=u) (v:=v) (A3 hl) (A3 hm) A5 (R7.add hG he hn)<|Ba hT Ah) ?_
 rintro _ _ ⟨_,_,⟨ad,M,w8,rfl,rfl⟩,rfl,rfl⟩
 refine Z ?_
 refine Ge1 (Aj L6 C) λb9=>Ge0 (Db L6)<|Z ?_
 refine Ge0 (Db L6)<|Z ?_
 exact Cs C L6 C C C mm C (vk 3 ad M (j5 nd<|z8 Pt.lt es<|j4 u v)::vk 105 ab aa (z8 Pt.lt es<|j4 u v)::I) Az ⟨ab,aa,ad,M,_,rfl,rfl⟩
theorem cy6(hl:Sl κ I (.slice ea es.length ec) es)(hm:Sl κ I (.slice na (j5 nd es).length nc) (j5 nd es))(hG:s8 nd es)(he:F5 nd u v)(hn:j4 u v∈es)(hT:F4 κ I 0 p5):eu prog κ 284 [.agg #[e7 nd,.slice ea es.length ec,.slice na (j5 nd es).length nc],e7 u,e7 v] I (λr J=>∃(ga:Option Addr) (gc:Nat) (a:Option Addr) (c:Nat) (w:Value),r = .tuple #[.agg #[e7 nd,.slice ga (j7 es (j4 u v)).length gc,.slice a (j5 nd (j7 es (j4 u v))).length c],w,e7 0]/\J=vk 3 a c (j5 nd (j7 es (j4 u v)))::vk 105 ga gc (j7 es (j4 u v))::I):=by
 refine Ce3 Tryz.func284 C C ?_
 refine Al<|Ge1 (Av (cs:=[_,_,_]) C C C) λb1=>Ge1 (Aj L6 C) λb2=>Z ?_
 refine Gc0 (Ab c_ C C<|cb8 (nd:=nd) (u:=u) (v:=v) (A3 hl) (A3 hm) hG he<|Ba hT Ah)<|Z ?_
 refine Ao C (λah=>Z ?_)<|λah=>Z ?_
 ·refine Ge0 (Db L6) (Z ?_)
  exact absurd rfl asm
 refine Gc2 (Ab c_ C C<|bb1 (nd:=nd) (u:=u) (v:=v) (A3 hl) (az7 hG he hn)<|by have:=q9 hG;omega) λab aa=>Z ?_
 refine Ge1 (Aj K0 C) λb5=>Ge0 (Co K0)<|Z ?_
 refine Ao C (λae=>Z ?_)<|λae=>Z ?_
 ·refine Ge0 (Db L6) (Z ?_)
  exact absurd rfl asm
 refine G.e (Ab c_ C C<|fe2 (nd:=nd) (u:=u) (v:=v) (A3 hl) (A3 hm) A5 (R7.rem hG he hn)<|Ba hT Ah) ?_
 rintro _ _ ⟨_,_,⟨ad,M,w8,rfl,rfl⟩,rfl,rfl⟩
 refine Z ?_
 refine Ge1 (Aj L6 C) λb9=>Ge0 (Db L6)<|Z ?_
 refine Ge0 (Db L6)<|Z ?_
 exact Cs C L6 C C C mm C (vk 3 ad M (j5 nd<|j7 es<|j4 u v)::vk 105 ab aa (j7 es<|j4 u v)::I) Az ⟨ab,aa,ad,M,_,rfl,rfl⟩
end Go.Sl
