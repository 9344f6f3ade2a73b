/- A part of the proofs of statements of this seat: contracts of functions, and the plain laws that they lean on. No conditions. -/
import Derived.Test.YtoagcglbkeomgaaGreatDoorV21
set_option linter.unusedVariables false
set_option linter.unusedSimpArgs false
set_option linter.unusedSectionVars false
open Go.Proofs.Tryz (prog)
set_option maxHeartbeats 4000000
namespace Go.Sl
open Go.Proofs
set_option maxRecDepth 4000
variable{M b ec nc:Nat}{ea la na:Option Addr}{qs:List Int}{nd u v:Int}{es:List Pt}
variable {κ:Ctx}{I:List Item}
attribute [local irreducible] W G V D A j8 Eff
theorem ch6{lc:Nat}{i:Int}(hb:qs.length<=1000000000):eu prog κ 292 [e7 i,(pt b)] (vk 3 la lc qs::e8 b [.slice la qs.length lc] 22::I) (λr J=>∃(a:Option Addr) (c:Nat),r = .tuple #[]/\J=vk 3 a c (qs++[i])::e8 b [.slice a (qs++[i]).length c] 22::I):=by
 refine Ce2 Tryz.func292 C C<|Z ?_
 refine Ge1 (B2 (α:=Int) (cs:=[_]) (xs:=[i]) Ab ef C C dc dc C C C C) λab=>?_
 refine Ge2 (Br (α:=Int) (e:=3) (xs:=qs) (ys:=([i]:List Int)) Ab ef C C C mm A5 lcn dc C<|λ_ _=>am) λM aa=>?_
 refine Ge0 (Bs (cs:=[_]) (vs:=[_]) (cs':=[_]) U1) ?_
 exact Bq<|V.end0 C (vk 3 M aa (qs++[i])::e8 b [.slice M (qs++[i]).length aa] 22::I) Az ⟨M,aa,rfl,rfl⟩
theorem ff0(hb:qs.length<=1000000000):eu prog κ 293 [(pt b)] (vk 3 la M qs::e8 b [.slice la qs.length M] 22::I) (λr J=>(qs=[]/\r = .tuple #[e7 0,.bool false]/\J=vk 3 la M qs::e8 b [.slice la qs.length M] 22::I)\/(0<qs.length/\∃(a:Option Addr) (c:Nat),r = .tuple #[e7 (e_ qs 0),.bool true]/\J=vk 3 a c (qs.drop 1)::e8 b [.slice a (qs.drop 1).length c] 22::I)):=by
 refine Ce1 Tryz.func293 C C<|Z ?_
 refine Am C (λc6=>Z ?_)<|λc6=>Z ?_
 ·exact C3 C C C (vk 3 la M qs::e8 b [.slice la qs.length M] 22::I) Az<|.inl ⟨Kw.1 om,rfl,rfl⟩
 refine Gr (Dn (α:=Int) (xs:=qs) (l:=1) Ab ef C C om A5 om)<|Ge0 (Bs (cs:=[_]) (vs:=[_]) (cs':=[_]) U1)<|Z ?_
 exact C3 C C C (vc 3 (.slice (N9 la M 1<|Enc.sz Int) (List.drop 1 qs).length (M - 1)) (qs.drop 1)::e8 b [.slice (N9 la M 1<|Enc.sz Int) (List.drop 1 qs).length (M - 1)] 22::I) (A9 Az<|Fit.ga2 (α:=Int) C om)<|.inr ⟨by omega,(N9 la M 1<|Enc.sz Int),(M - 1),rfl,rfl⟩
theorem fe9  :
    eu prog κ 290 [] I (λr J=>∃b:Nat,r = .tuple #[.func (.func 292) #[] #[(pt b)],.func (.func 293) #[] #[(pt b)]]/\J=vk 3 none 0 ([]:List Int)::e8 b [.slice none ([]:List Int).length 0] 22::I):=by
 refine Ce0 Tryz.func290 C C<|Z ?_
 refine Ge1 (Aj U1 C) λb1=>Ar<|Ak<|Gr (D0 C C)<|Ga C<|Ar<|Ak<|Gr (D0 C C)<|Z ?_
 exact C3 C C C (vk 3 none 0 ([]:List Int)::e8 b1 [.slice none ([]:List Int).length 0] 22::I) (A9 Az<|B7 (α:=Int) _ _) ⟨b1,rfl,rfl⟩
variable {κ:Ctx}{I:List Item}
theorem gc2(hl:Sl κ I (.slice ea es.length ec) es)(hm:Sl κ I (.slice na (j6 nd es).length nc) (j6 nd es))(hG:s6 nd es)(hT:F4 κ I 0 p6):eu prog κ 285 [.agg #[e7 nd,.slice ea es.length ec,.slice na (j6 nd es).length nc]] I (λr J=>r = .bool true/\I=J):=by
 have M:=s4.2 hG
 have ae:=q9 hG
 refine Ce1 Tryz.func285 C C ?_
 refine Ak<|Ge1 (Au (cs:=[_,_,_]) C C C) λb1=>Z ?_
 refine G.e (Ac c_ C C<|bh5 (nd:=nd) (A4 hl) om<|A8 hT Ah) ?_
 rintro _ _ ⟨_,_,⟨ad,ab,rfl,rfl⟩,rfl,rfl⟩
 refine Z ?_
 refine A3 (d:=13) C (λaa=>Z ?_)<|λaa=>Z ?_
 ·refine Ds (Cn C C C) (Ac c_ C C<|cr0 (xs:=j6 nd es) (ys:=j6 nd es) A5<|A4 hm) ?_
  rintro _ _ ⟨_,_,⟨rfl,rfl⟩,rfl,rfl⟩
  refine Z ?_
  exact Al C C I Ah ⟨by first|rfl|(simp;done)|exact absurd M asm,rfl⟩
 exact Al C C I Ah ⟨by first|rfl|(simp;done)|exact absurd M asm,rfl⟩
theorem cc3(hl:Sl κ I (.slice ea es.length ec) es)(hm:Sl κ I (.slice na (j6 nd es).length M) (j6 nd es))(hG:s6 nd es)(he:F5 nd u v)(hT:F4 κ I 0 p6):eu prog κ 286 [.agg #[e7 nd,.slice ea es.length ec,.slice na (j6 nd es).length M],e7 u,e7 v] I (λr J=>r=e7 0/\I=J):=by
 refine Ce3 Tryz.func286 C C ?_
 refine Ak<|Ge1 (Au (cs:=[_,_,_]) C C C) λb1=>Z ?_
 refine Gc0 (Ac c_ C C<|gc2 (nd:=nd) (A4 hl) (A4 hm) hG<|A8 hT Ah)<|Z ?_
 refine Gc0 (Ac c_ C C<|ci5 nd u v)<|Z ?_
 refine Am C (λc11=>Z ?_)<|λc11=>Z ?_
 ·exact Al C C I Ah ⟨by first|rfl|exact absurd he asm,rfl⟩
 exact Al C C I Ah ⟨by first|rfl|exact absurd he asm,rfl⟩
theorem ff4(hl:Sl κ I (.slice ea es.length ec) es)(hG:s6 nd es)(hT:F4 κ I 0 p6):eu prog κ 42 [.agg #[e7 nd,.slice ea es.length ec]] I (λr J=>∃(ga:Option Addr) (gc:Nat) (a:Option Addr) (c:Nat),r = .tuple #[.agg #[e7 nd,.slice ga es.length gc,.slice a (j6 nd es).length c],e7 0]/\J=vk 3 a c (j6 nd es)::vk 105 ga gc es::I):=by
 have ae:=s4.2 hG
 have ah:=q9 hG
 refine Ce1 Tryz.func42 C C ?_
 refine Ak<|Ge1 (Au (cs:=[_,_]) C C C) λb1=>Ge1 (Aj L4 C) λb2=>Z ?_
 refine G.e (Ac c_ C C<|bh5 (nd:=nd) (A4 hl) om<|A8 hT Ah) ?_
 rintro _ _ ⟨_,_,⟨aa,M,rfl,rfl⟩,rfl,rfl⟩
 refine Z ?_
 refine Am C (λc12=>Z ?_)<|λc12=>?_
 ·refine Ge0 (Da L4) (Z ?_)
  exact Cp C L4 C C mm C I Ah<|by exfalso;first|exact absurd ae asm|omega
 refine Bc<|Ao<|Ax<|Ba mixed<|Ee 8<|Z ?_
 refine Ds1 4<|Sc2 C (Ac c_ C C<|an7 (xs:=es) (A4 hl) om) λad ab=>Z ?_
 refine Cg kr ?_
 refine Ae 8 C (Da L4) ?_
 rintro _ _ ⟨rfl,rfl⟩
 refine Dg (i:=9) kr C (Ap C) C C (Bh C) ?_
 refine Ch kr<|Z ?_
 exact Cp C L4 C C mm C (vk 3 aa M (j6 nd es)::vk 105 ad ab es::I) Az ⟨ad,ab,aa,M,rfl,rfl⟩
theorem dz1{y:Int}(h:au1 nd es u v y):y<(es.length:Int):=by
 rcases h with ⟨_,j,rfl,M,_⟩|⟨rfl,_⟩<;>omega
theorem P2{κ:Ctx}{I:List Item}{nd':Int}{M ga ma:Option Addr}{gc mc:Nat}{es':List Pt}{num num':List Int}(hl:Sl κ I (.slice M es.length ec) es)(hm:Sl κ I (.slice na num.length nc) num)(ae:Sl κ I (.slice ga es'.length gc) es')(an:Sl κ I (.slice ma num'.length mc) num')(hb:es.length<=1000000)(ak:es'.length<=1000000)(h1:num.length=es.length)(h2:num'.length=es'.length):eu prog κ 289 [.agg #[e7 nd,.slice M es.length ec,.slice na num.length nc],.agg #[e7 (nd'),.slice ga es'.length gc,.slice ma num'.length mc]] I (λr J=>∃w:Value,r=w/\J=I):=by
 refine Ce2 Tryz.func289 C C ?_
 refine Ak<|Ge1 (Au (cs:=[_,_,_]) C C C) λb1=>Ge1 (Au (cs:=[_,_,_]) C C C) λb2=>Z ?_
 refine B9 (σ:=Nat×(Option Addr)×Nat×(List Pt)) (λs=>([(2,pt b1),(3,pt b2),(5,.slice s.2.1 s.2.2.2.length s.2.2.1),(11,.slice M es.length ec),(12,e7 ((es.length:Nat):Int)),(13,e7 ((s.1:Nat):Int))]:Env)) (λs=>vk 105 s.2.1 s.2.2.1 s.2.2.2::e8 b2 [e7 (nd'),.slice ga es'.length gc,.slice ma num'.length mc] 41::e8 b1 [e7 nd,.slice M es.length ec,.slice na num.length nc] 41::I) (λs=>(s.1<=es.length)/\(s.2.2.2.length<=s.1)) (λs=>es.length - s.1) (0,none,0,[]) ⟨om,(by simp)⟩ (cx2<|Aa (Db C<|by first|rfl|simp)<|cx2<|Aa Co Bb) (A9 (show Fit κ _ _ from Az)<|B7 (α:=Pt) _ _) ?_
 rintro ⟨k,oa,oc,o⟩ hp
 dsimp only at hp ⊢
 obtain ⟨hk,ao⟩:=hp
 refine Z ?_
 refine Am C (λai=>Z ?_)<|λai=>Z ?_
 ·refine Ge1 (Aj s8 C) λb3=>Ga C (Ge0 (Cs s8)<|Z ?_)
  refine G.e (Ac c_ C C<|au2 (nd:=nd') (A4 ae) ((e_ es k).u) ((e_ es k).v) om) ?_
  rintro _ _ ⟨_,_,⟨y4,rfl,ab,rfl⟩,rfl,rfl⟩
  refine Z ?_
  have ap:=dz1 ab
  refine Z ?_
  refine Ba mixed<|Ee 15<|Z ?_
  refine Dj (d:=27) C (λah=>Z ?_)<|λah=>?_
  ·refine Am C (λad=>Z ?_) (λad=>Z ?_)
   ·refine Ge1 (B2 (α:=Pt) (cs:=[_,_]) (xs:=[⟨(e_ es k).u,(e_ es k).v⟩]) Ay s8 C C dc dc C C C C) λaq=>?_
    refine Ge2 (Br (α:=Pt) (e:=105) (xs:=o) (ys:=([⟨(e_ es k).u,(e_ es k).v⟩]:List Pt)) Ay s8 C C C mm A5 lcn dc C<|λ_ _=>am) λaj aa=>Z ?_
    exact Bt ((k+1),(aj),(aa),(o++([⟨(e_ es k).u,(e_ es k).v⟩]:List Pt)))<|by dsimp only;exact ⟨om,olp⟩
   exact Bt ((k+1),(oa),(oc),(o))<|by dsimp only;exact ⟨om,olp⟩
  refine Dpo 3 C<|Z ?_
  exact Bt ((k+1),(oa),(oc),(o))<|by dsimp only;exact ⟨om,olp⟩
 exact Al C C I Ah ⟨_,rfl,rfl⟩
end Go.Sl
namespace Go.Sl
open Go.Proofs
set_option maxRecDepth 4000
variable{b:List Int}{ec gc j k nc:Nat}{κ:Ctx}{I:List Item}{ba ea ga na:Option Addr}{y:Int}
section
variable {nd:Int}{es:List Pt}{bs ms:List Int}
theorem bv9(nd:Int)(es:List Pt):(G2 nd es).length=es.length:=F_ ..
theorem TrB.start(hB:TrB nd es bs)(h1:∀i:Int,0<=i->i<es.length->i∈ms)(h2:∀i∈ms,0<=i/\i<es.length):an0 (G2 nd es) (j6 nd es) bs ms:=by
 have hl:=bv9 nd es
 exact ⟨by rw [hl];exact hB.len,λi hi=>by rw [hl];exact h2 i hi,λi M i1=>hB.low i M om,λi M i1=> .inl<|h1 i M om⟩
theorem bv6(M:s6 nd es):bu8 (λi:Int=>0<=i/\i<(G2 nd es).length) (da6 (G2 nd es)) λi=>(e_ (j6 nd es) i).toNat:=by
 have h1:=bv8 (ds9 M) (db7 (ds9 M)<|av1 M)
 rw [bv7 M];exact h1
theorem dg1:∀{l:List Int},(∀x∈l,0<=x)->0<=l.sum
 |[],_=>by simp
 |x::l,h=>by
  have h1:=dg1 (l:=l) λy M=>h y (C_ _ M)
  have h2:=h x A_
  rw [Jb];omega
theorem fj6{m:Int}:∀{l:List Int},(∀x∈l,x<=m)->l.sum<=m*(l.length:Int)
 |[],_=>by simp
 |x::l,h=>by
  have h1:=fj6 (l:=l) λy M=>h y (C_ _ M)
  have h2:=h x A_
  rw [Jb,E_]
  have h3:m*((l.length+1:Nat):Int)=m*(l.length:Int)+m:=by rw [Mj,Lq];simp
  omega
theorem dd5{tri:List (List Pt)}{t q:List Int}(h:an0 tri t b q):0<=b.sum:=dg1 λx M=>by
 obtain ⟨i,hi,rfl⟩:=aw0 M
 have h1:=h.len
 have h2:=h.low (i:Int) om om
 omega
theorem cw1(l:List Pt):(bj8 l).length=2*l.length:=by
 induction l with
 |nil=>rfl
 |cons p l ih=>unfold bj8 at ih ⊢; rw [List.flatMap_cons,By,ih];simp;omega
theorem cg5(l:List Pt)(h:k<l.length):bj8 (l.take (k+1))=bj8 (l.take k)++[(e_ l k).u,(e_ l k).v]:=by
 unfold bj8;rw [Ca l k h,List.flatMap_append];simp
theorem fp5(h:0<ms.length):ms=e_ ms 0::ms.drop 1:=by
 cases ms with
 |nil=>cases h
 |cons a l=>rfl
end
theorem fr6{nd:Int}{bc:Nat}{es:List Pt}{bs:List Int}(hl:Sl κ I (.slice ea es.length ec) es)(hG:s6 nd es)(hB:TrB nd es bs)(a3:∀x∈bs,0<=x/\x<=1000)(hT:F4 κ I 0 p6):eu prog κ 288 [.agg #[e7 nd,.slice ea es.length ec],.slice ba bs.length bc] (vk 3 ba bc bs::I) (λr J=>r = .slice ba bs.length bc/\J=vc 3 (.slice ba bs.length bc) (j6 nd es)::I):=by
 have bq:=hG.rng
 have b9:=q9 hG
 have cb:=hB.len
 have bv:=dg1 (λx hx=>(a3 x hx).1)
 have b2:=fj6 (λx hx=>(a3 x hx).2)
 have b3:=bv9 nd es
 refine Ce2 Tryz.func288 C C ?_
 refine Ak<|Ge1 (Au (cs:=[_,_]) C C C) λb1=>Ga C<|Ar<|Ak<|Gl2 J8 ?_
 refine G.e (Ac c_ C C<|az0 (nd:=nd) (A4 hl) hG om<|A8 hT Ah) ?_
 rintro _ _ ⟨_,_,⟨ah,ai,M,rfl,ar,rfl⟩,rfl,rfl⟩
 have b5:M.length=(G2 nd es).length:=by rw [←ar,F_]
 refine Dq (J:=vk 198 ah ai M::e8 b1 [e7 nd,.slice ea es.length ec] 38::vk 3 ba bc bs::(rgI M++I)) (Cj<|List.Perm.cons _<|C1 (A:=rgI M) (L:=[e8 b1 [e7 nd,.slice ea es.length ec] 38,vk 3 ba bc bs]) (T:=I)) ?_
 refine Ga C<|Ar<|Ak<|G.e (Ac c_ C C fe9) ?_
 rintro _ _ ⟨_,_,⟨ae,rfl,rfl⟩,rfl,rfl⟩
 refine Gm C<|Gr (Bj C C)<|Gr (Bj C C)<|Ga C<|Ga C<|Ar<|Ax<|Ak<|Gm C<|Gr (Bk Ab C)<|Gm C<|Ar<|A1 (S6 25 24 7 6 5 1)<|A7<|B9 (σ:=Nat×(Option Addr)×Nat×(List Int)) (λs=>([(1,.slice ba bs.length bc),(5,.slice ah M.length ai),(6,.func (.func 292) #[] #[(pt ae)]),(7,.func (.func 293) #[] #[(pt ae)]),(24,e7 ((bs.length:Nat):Int)),(25,e7 ((s.1:Nat):Int))]:Env)) (λs=>vk 3 s.2.1 s.2.2.1 s.2.2.2::e8 ae [.slice s.2.1 s.2.2.2.length s.2.2.1] 22::vk 198 ah ai M::e8 b1 [e7 nd,.slice ea es.length ec] 38::vk 3 ba bc bs::(rgI M++I)) (λs=>(s.1<=bs.length)/\(s.2.2.2.length=s.1)/\(∀i:Int,i∈s.2.2.2↔0<=i/\i<(s.1:Int))) (λs=>bs.length - s.1) (0,none,0,([]:List Int)) ⟨om,rfl,(λi=>⟨(λh=>by cases h),(λh=>by omega)⟩)⟩ (cx4<|Aa C<|Aa Co Bb) Ai ?_
 rintro ⟨k,qa,qc,q⟩ hp
 dsimp only at hp ⊢
 obtain ⟨hk,cc,hq⟩:=hp
 refine Ak<|Gr (Bl C C)<|Ar<|Ax<|Am C (λbo=>?_)<|λbo=>?_
 ·refine Bc (Ao<|Ax<|A7<|Ak<|Gm C<|Ga C<|Ar<|A6<|Gm C<|Gm C<|Gc2 (Cy c_ C C C<|Cm (J:=vk 3 qa qc q::e8 ae [.slice qa q.length qc] 22::vk 198 ah ai M::e8 b1 [e7 nd,.slice ea es.length ec] 38::vk 3 ba bc bs::(rgI M++I)) Az<|ch6 (b:=ae) (qs:=q) (i:=(k:Int)) olp) λa6 bg=>?_)
  exact Bq<|Av<|Ao<|A6<|Gr (Rad C C)<|Gm C<|Bq<|Bt ((k+1),(a6),(bg),(q++[(k:Int)]))<|by dsimp only;exact ⟨om,lap,(λi=>by rw [Gt,Gc,hq];omega)⟩
 refine Ci<|Aw<|Aw<|Bi<|Ao<|A7<|B9 (σ:=(List Int)×(Option Addr)×Nat×(List Int)) (λs=>([(1,.slice ba bs.length bc),(5,.slice ah M.length ai),(6,.func (.func 292) #[] #[(pt ae)]),(7,.func (.func 293) #[] #[(pt ae)])]:Env)) (λs=>vk 3 s.2.1 s.2.2.1 s.2.2.2::e8 ae [.slice s.2.1 s.2.2.2.length s.2.2.1] 22::vk 198 ah ai M::e8 b1 [e7 nd,.slice ea es.length ec] 38::vc 3 (.slice ba bs.length bc) (s.1)::(rgI M++I)) (λs=>(an0 (G2 nd es) (j6 nd es) s.1 s.2.2.2)/\((s.2.2.2.length:Int)+200*s.1.sum<=(bs.length:Int)+200*bs.sum)) (λs=>s.2.2.2.length+200*s.1.sum.toNat) (bs,qa,qc,q) (show (an0 (G2 nd es) (j6 nd es) (bs:List Int) (q:List Int))/\(((q:List Int).length:Int)+200*(bs:List Int).sum<=(bs.length:Int)+200*bs.sum) from ⟨(hB.start (λi h0 h1=>(hq i).2 ⟨h0,by omega⟩) (λi hi=>by have:=(hq i).1 hi;omega)),om⟩) (cx2<|Aa C<|Aa C Bb) Ai ?_
 rintro ⟨aa,ma,mc,ms⟩ hp
 dsimp only at hp ⊢
 obtain ⟨hS,b4⟩:=hp
 have bt:=hS.len
 have ca:=dd5 hS
 have br:=hS.low
 refine A7<|Ak<|Gm C<|G.e (Cy c_ C C C<|Cm (J:=vk 3 ma mc ms::e8 ae [.slice ma ms.length mc] 22::vk 198 ah ai M::e8 b1 [e7 nd,.slice ea es.length ec] 38::vc 3 (.slice ba bs.length bc) (aa)::(rgI M++I)) Az<|ff0 (b:=ae) (qs:=ms) olp) ?_
 rintro _ _ ⟨_,_,(⟨bm,rfl,rfl⟩|⟨bi,aj,ak,rfl,rfl⟩),rfl,rfl⟩
 ·skip
  refine Gm C<|Gr (Bj C C)<|Gr (Bj C C)<|Ga C<|Ga C<|Ar<|Ax<|Ak<|Gm C<|Gr (E3 C)<|Ar<|W.yes C<|Ak<|Gm C<|Ga C<|Ar<|A1 (S1 4)<|B3<|Ck<|V.ak0<|Ck<|V.ak0 ?_
  have bh:ms=[]:=by assumption
  rw [bh] at hS
  have a7:=hS.done (ds9 hG) (bv6 hG) (by rw [G3 hG];omega)
  exact Al C C (vc 3 (.slice ba bs.length bc) (j6 nd es)::I) (by rw [←a7];exact Az) ⟨rfl,rfl⟩
 skip
 refine Gm C<|Gr (Bj C C)<|Gr (Bj C C)<|Ga C<|Ga C<|Ar<|Ax<|Ak<|Gm C<|Gr (E3 C)<|Ar<|W.no C<|Bc<|Ao<|Ak<|Ga C ?_
 have ao:=hS.rng _ (Bp (xs:=ms) (i:=0) om om)
 have ap:(e_ M<|e_ ms 0).xs=e_ (G2 nd es) (e_ ms 0):=az9 ar ao.1 om
 have a9:=(av1 hG).len _ (Bp (xs:=(G2 nd es)) ao.1 om)
 rw [←ap] at a9
 have az:an0 (G2 nd es) (j6 nd es) aa ((e_ ms 0)::ms.drop 1):=by rw [←fp5 om];exact hS
 have bf:=fun (p:Pt) (hp:p∈(e_ M<|e_ ms 0).xs)=>((ds9 hG).rng _ ao.1 ao.2 p (ap▸hp)).1
 refine Ar<|A1 (S6 11 9 1 5 6 7)<|Ax<|Ak<|Gm C<|Gm C<|Gr (A2 (α:=(G1 Pt)) (xs:=M) D7 bj3 C C A5 (by first|omega|(have h8:=ab om;omega))<|by first|omega|(have h8:=ab om;omega))<|Gr (Cc (α:=(G1 Pt)) (xs:=M) (u:= .slice (e_ M<|e_ ms 0).a (e_ M<|e_ ms 0).xs.length (e_ M<|e_ ms 0).c) bj3 C A5 (by first|omega|(have h8:=ab om;omega)) (by first|omega|(have h8:=ab om;omega)) C)<|Gr (Bk Bw C)<|Gm C<|Ar<|A7<|B9 (σ:=Nat×(Option Addr)×Nat×(List Int)) (λs=>([(1,.slice ba bs.length bc),(5,.slice ah M.length ai),(6,.func (.func 292) #[] #[(pt ae)]),(7,.func (.func 293) #[] #[(pt ae)]),(9,e7<|e_ ms 0),(11,.slice s.2.1 s.2.2.2.length s.2.2.1),(43,.slice (e_ M<|e_ ms 0).a (e_ M<|e_ ms 0).xs.length (e_ M<|e_ ms 0).c),(44,e7<|(((e_ M<|e_ ms 0).xs.length:Nat):Int)),(45,e7 ((s.1:Nat):Int))]:Env)) (λs=>vk 3 s.2.1 s.2.2.1 s.2.2.2::vk 3 aj ak (List.drop 1 ms)::e8 ae [.slice aj (List.drop 1 ms).length ak] 22::vk 198 ah ai M::e8 b1 [e7 nd,.slice ea es.length ec] 38::vc 3 (.slice ba bs.length bc) (aa)::(rgI M++I)) (λs=>(s.1<=(e_ M<|e_ ms 0).xs.length)/\(s.2.2.2=((e_ M<|e_ ms 0).xs.take s.1).map λp=>min (e_ aa p.u)<|e_ aa p.v)) (λs=>(e_ M<|e_ ms 0).xs.length - s.1) (0,none,0,([]:List Int)) ⟨om,rfl⟩ (cx4<|Aa C<|Aa (Db C<|by first|rfl|simp)<|cx2<|Aa Co Bb) (A9 (show Fit κ _ _ from Az)<|B7 (α:=Int) _ _) ?_
 rintro ⟨j,oa,oc,o⟩ hp
 dsimp only at hp ⊢
 obtain ⟨hj,ho⟩:=hp
 have b8:o.length=j:=by rw [ho,F_,Fp];omega
 have ab:=λh:j<(e_ M<|e_ ms 0).xs.length=>bf _ (Bp (xs:=(e_ M<|e_ ms 0).xs) (i:=(j:Int)) om om)
 refine Ak<|Gr (Bl C C)<|Ar<|Ax<|Am C (λbe=>?_)<|λbe=>?_
 ·refine Bc (Ao<|Ax<|A7<|Ak<|Gr (A2 (α:=Pt) (xs:=(e_ M<|e_ ms 0).xs) Bw L8 C C (Cz<|by repeat (first|exact an9 (rs:=M) (i:=(e_ ms 0)) om om|apply C_)) (by first|omega|(have h8:=ab om;omega))<|by first|omega|(have h8:=ab om;omega))<|Gr (C6 (α:=Pt) (xs:=(e_ M<|e_ ms 0).xs) L8 C (Cz<|by repeat (first|exact an9 (rs:=M) (i:=(e_ ms 0)) om om|apply C_)) (by first|omega|(have h8:=ab om;omega))<|by first|omega|(have h8:=ab om;omega))<|Ge1 (Aj L8 C) λbp=>Ge0 (Cs L8) ?_)
  refine Ar<|Ba mixed<|Bx (e8 bp [e7 ((e_ ((e_ M<|e_ ms 0).xs) (j:Int)).u),e7<|(e_ ((e_ M<|e_ ms 0).xs) (j:Int)).v] 200::vk 3 aj ak (List.drop 1 ms)::e8 ae [.slice aj (List.drop 1 ms).length ak] 22::vk 198 ah ai M::e8 b1 [e7 nd,.slice ea es.length ec] 38::vc 3 (.slice ba bs.length bc) (aa)::(rgI M++I)) 15<|Dr 0 C (Aq C)<|Dr 1 C (Aq C)<|Dr 2 C (B5 B8 ty2 C C om om)<|Dr 3 C (Bd ef) ?_
  refine Dr 4 C (A2 (α:=Int) (xs:=aa) Ab ef C C A5 (by first|omega|(have h8:=ab om;omega))<|by first|omega|(have h8:=ab om;omega))<|Dr 5 C (B6 (xs:=aa) ef C A5 (by first|omega|(have h8:=ab om;omega))<|by first|omega|(have h8:=ab om;omega))<|Dr 6 C (Aq C)<|Dr 7 C (B5 B8 ty2 C C om om)<|Dr 8 C (Bd ef) ?_
  refine Dr 9 C (A2 (α:=Int) (xs:=aa) Ab ef C C A5 (by first|omega|(have h8:=ab om;omega))<|by first|omega|(have h8:=ab om;omega))<|Dr 10 C (B6 (xs:=aa) ef C A5 (by first|omega|(have h8:=ab om;omega))<|by first|omega|(have h8:=ab om;omega))<|Dr 11 C (j8.min C C)<|Ds1 12<|Se1 C (B2 (α:=Int) (cs:=[_]) (xs:=[if (e_ aa<|(e_ ((e_ M<|e_ ms 0).xs) (j:Int)).v)<(e_ aa<|(e_ ((e_ M<|e_ ms 0).xs) (j:Int)).u) then (e_ aa<|(e_ ((e_ M<|e_ ms 0).xs) (j:Int)).v) else (e_ aa<|(e_ ((e_ M<|e_ ms 0).xs) (j:Int)).u)]) Ab ef C C dc dc C C C C) λbu=>?_
  refine Ds1 13<|Se2 C (Br (α:=Int) (e:=3) (xs:=o) (ys:=([if (e_ aa<|(e_ ((e_ M<|e_ ms 0).xs) (j:Int)).v)<(e_ aa<|(e_ ((e_ M<|e_ ms 0).xs) (j:Int)).u) then (e_ aa<|(e_ ((e_ M<|e_ ms 0).xs) (j:Int)).v) else (e_ aa<|(e_ ((e_ M<|e_ ms 0).xs) (j:Int)).u)]:List Int)) Ab ef C C C mm A5 lcn dc C<|λ_ _=>am) λa0 ay=>?_
  exact Dr 14 C (Bh C)<|Dz<|Av<|Ao<|A1 (S9 11 1 5 6 7 9 43 44 45)<|A6<|Gr (Rad C C)<|Gm C<|Bq<|Bt ((j+1),(a0),(ay),(o++([if (e_ aa<|(e_ ((e_ M<|e_ ms 0).xs) (j:Int)).v)<(e_ aa<|(e_ ((e_ M<|e_ ms 0).xs) (j:Int)).u) then (e_ aa<|(e_ ((e_ M<|e_ ms 0).xs) (j:Int)).v) else (e_ aa<|(e_ ((e_ M<|e_ ms 0).xs) (j:Int)).u)]:List Int)))<|by dsimp only;exact ⟨om,(by rw [Ca _ j om,Hr,←ho];simp only [Hg,Kq];first|rfl|(rw [fz6]))⟩
 refine Ci<|Aw<|Aw<|Bi<|Ao<|Ax<|Ba mixed<|Ee 8<|Dr 0 C (Aq C)<|Dr 2 C (Aq C)<|Dr 3 C (Aq C)<|Dr 4 C (A2 (α:=Int) (xs:=aa) Ab ef C C A5 (by first|omega|(have h8:=ab om;omega))<|by first|omega|(have h8:=ab om;omega))<|Dr 5 C (B6 (xs:=aa) ef C A5 (by first|omega|(have h8:=ab om;omega))<|by first|omega|(have h8:=ab om;omega))<|Ds1 1<|Se C (Ac c_ C C<|H_ok (xs:=o) A5 om) ?_
 rintro _ _ ⟨_,_,⟨ad,rfl,an,rfl⟩,rfl,rfl⟩
 refine ⟨Ah,?_⟩
 refine Dr 6 C (j8.min C C) ?_
 have bn:(if (e_ aa<|e_ ms 0)<(ad:Int) then (e_ aa<|e_ ms 0) else (ad:Int))=(min (ad:Int)<|e_ aa<|e_ ms 0):=by split<;>omega
 rw [bn]
 have a1:HI (bj7 (G2 nd es) aa<|e_ ms 0) (ad:Int):=by rw [ho,show j=(e_ M<|e_ ms 0).xs.length by omega,Hb,ap] at an;exact an
 refine Dr 7 C (Bh C)<|Dz<|Ao<|A1 (S6 14 1 5 6 7 9)<|Ak<|Gm C<|Gm C<|Gm C<|Gr (A2 (α:=Int) (xs:=aa) Ab ef C C A5 (by first|omega|(have h8:=ab om;omega))<|by first|omega|(have h8:=ab om;omega))<|Gr (B6 (xs:=aa) ef C A5 (by first|omega|(have h8:=ab om;omega))<|by first|omega|(have h8:=ab om;omega))<|Gr (Bl C C)<|Ar<|Am C (λbb=>?_)<|λbb=>?_
 ·refine Ak (Gm C<|Gm C<|Gm C<|Gr (A2 (α:=Int) (xs:=aa) Ab ef C C A5 (by first|omega|(have h8:=ab om;omega))<|by first|omega|(have h8:=ab om;omega))<|Ge0 (Cw (α:=Int) (xs:=aa) (e:=3) (new:=(min (ad:Int)<|e_ aa<|e_ ms 0)) ef C C C (by first|omega|(have h8:=ab om;omega)) (by first|omega|(have h8:=ab om;omega)) am) ?_)
  refine Ar<|A1 (S5 1 5 6 7 9)<|Ak<|Gm C<|Gm C<|Gr (A2 (α:=(G1 Pt)) (xs:=M) D7 bj3 C C A5 (by first|omega|(have h8:=ab om;omega))<|by first|omega|(have h8:=ab om;omega))<|Gr (Cc (α:=(G1 Pt)) (xs:=M) (u:= .slice (e_ M<|e_ ms 0).a (e_ M<|e_ ms 0).xs.length (e_ M<|e_ ms 0).c) bj3 C A5 (by first|omega|(have h8:=ab om;omega)) (by first|omega|(have h8:=ab om;omega)) C)<|Gr (Bk Bw C)<|Gm C<|Ar<|A7<|B9 (σ:=Nat×(Option Addr)×Nat×(List Int)) (λs=>([(1,.slice ba bs.length bc),(5,.slice ah M.length ai),(6,.func (.func 292) #[] #[(pt ae)]),(7,.func (.func 293) #[] #[(pt ae)]),(84,.slice (e_ M<|e_ ms 0).a (e_ M<|e_ ms 0).xs.length (e_ M<|e_ ms 0).c),(85,e7<|(((e_ M<|e_ ms 0).xs.length:Nat):Int)),(86,e7 ((s.1:Nat):Int))]:Env)) (λs=>vk 3 s.2.1 s.2.2.1 s.2.2.2::e8 ae [.slice s.2.1 s.2.2.2.length s.2.2.1] 22::vk 3 oa oc o::vk 198 ah ai M::e8 b1 [e7 nd,.slice ea es.length ec] 38::vc 3 (.slice ba bs.length bc) (List.set aa (e_ ms 0).toNat ((min (ad:Int)<|e_ aa<|e_ ms 0)))::(rgI M++I)) (λs=>(s.1<=(e_ M<|e_ ms 0).xs.length)/\(s.2.2.2=ms.drop 1++bj8 ((e_ M<|e_ ms 0).xs.take s.1))) (λs=>(e_ M<|e_ ms 0).xs.length - s.1) (0,aj,ak,List.drop 1 ms) ⟨om,(by unfold bj8;simp)⟩ (cx4<|cx2<|Aa Co Bb) Az ?_
  rintro ⟨j2,pa,pc,ps⟩ hp
  dsimp only at hp ⊢
  obtain ⟨b7,aw⟩:=hp
  have b6:ps.length=(ms.length - 1)+2*j2:=by rw [aw,By,Fx,cw1,Fp];omega
  refine Ak<|Gr (Bl C C)<|Ar<|Ax<|Am C (λbj=>?_)<|λbj=>?_
  ·refine Bc (Ao<|Ax<|A7<|Ak<|Gr (A2 (α:=Pt) (xs:=(e_ M<|e_ ms 0).xs) Bw L8 C C (Cz<|by repeat (first|exact an9 (rs:=M) (i:=(e_ ms 0)) om om|apply C_)) (by first|omega|(have h8:=ab om;omega))<|by first|omega|(have h8:=ab om;omega))<|Gr (C6 (α:=Pt) (xs:=(e_ M<|e_ ms 0).xs) L8 C (Cz<|by repeat (first|exact an9 (rs:=M) (i:=(e_ ms 0)) om om|apply C_)) (by first|omega|(have h8:=ab om;omega))<|by first|omega|(have h8:=ab om;omega))<|Ge1 (Aj L8 C) λa4=>Ge0 (Cs L8) ?_)
   refine Ar<|Ak<|Gm C<|Gr (B5 B8 ty2 C C om om)<|Gl ef ?_
   refine Gc2 (Cy c_ C C C<|Cm (J:=vk 3 pa pc ps::e8 ae [.slice pa ps.length pc] 22::e8 a4 [e7 ((e_ ((e_ M<|e_ ms 0).xs) (j2:Int)).u),e7<|(e_ ((e_ M<|e_ ms 0).xs) (j2:Int)).v] 200::vk 3 oa oc o::vk 198 ah ai M::e8 b1 [e7 nd,.slice ea es.length ec] 38::vc 3 (.slice ba bs.length bc) (List.set aa (e_ ms 0).toNat ((min (ad:Int)<|e_ aa<|e_ ms 0)))::(rgI M++I)) Az<|ch6 (b:=ae) (qs:=ps) (i:=(e_ ((e_ M<|e_ ms 0).xs) (j2:Int)).u) olp) λau av=>?_
   refine Ar<|A1 (S8 16 1 5 6 7 84 85 86)<|A6<|Gm C<|Gr (B5 B8 ty2 C C om om)<|Gl ef ?_
   refine Gc2 (Cy c_ C C C<|Cm (J:=vk 3 au av (ps++[(e_ ((e_ M<|e_ ms 0).xs) (j2:Int)).u])::e8 ae [.slice au (ps++[(e_ ((e_ M<|e_ ms 0).xs) (j2:Int)).u]).length av] 22::e8 a4 [e7 ((e_ ((e_ M<|e_ ms 0).xs) (j2:Int)).u),e7<|(e_ ((e_ M<|e_ ms 0).xs) (j2:Int)).v] 200::vk 3 oa oc o::vk 198 ah ai M::e8 b1 [e7 nd,.slice ea es.length ec] 38::vc 3 (.slice ba bs.length bc) (List.set aa (e_ ms 0).toNat ((min (ad:Int)<|e_ aa<|e_ ms 0)))::(rgI M++I)) Az<|ch6 (b:=ae) (qs:=ps++[(e_ ((e_ M<|e_ ms 0).xs) (j2:Int)).u]) (i:=(e_ ((e_ M<|e_ ms 0).xs) (j2:Int)).v) olp) λa5 ax=>?_
   exact Bq<|Av<|Ao<|A6<|Gr (Rad C C)<|Gm C<|Bq<|Bt ((j2+1),(a5),(ax),((ps++[(e_ ((e_ M<|e_ ms 0).xs) (j2:Int)).u])++[(e_ ((e_ M<|e_ ms 0).xs) (j2:Int)).v]))<|by dsimp only;exact ⟨om,(by rw [cg5 _ om,←Fr,←aw];simp)⟩
  refine Ci<|Aw<|Aw<|Bi<|Av ?_
  have bk:min (ad:Int) (e_ aa<|e_ ms 0)=(ad:Int):=by omega
  have aq:an0 (G2 nd es) (j6 nd es) (List.set aa (e_ ms 0).toNat ((min (ad:Int)<|e_ aa<|e_ ms 0))) (ps):=by rw [bk,aw,show j2=(e_ M<|e_ ms 0).xs.length by omega,Hb,ap];exact az.sink (ds9 hG) (bv6 hG) a1 om
  have bw:=dd5 aq
  have a8:(List.set aa (e_ ms 0).toNat ((min (ad:Int)<|e_ aa<|e_ ms 0))).sum=aa.sum - e_ aa (e_ ms 0)+min (ad:Int) (e_ aa<|e_ ms 0):=by rw [az8 om om]
  exact Bt ((List.set aa (e_ ms 0).toNat ((min (ad:Int)<|e_ aa<|e_ ms 0))),(pa),(pc),(ps))<|by dsimp only;exact ⟨aq,om⟩
 refine Bc<|Av ?_
 have aq:an0 (G2 nd es) (j6 nd es) aa (List.drop 1 ms):=az.pass a1 om
 have a8:(List.drop 1 ms).length=ms.length - 1:=by rw [Fx]
 exact Bt ((aa),(aj),(ak),(List.drop 1 ms))<|by dsimp only;exact ⟨aq,om⟩
section
variable {nd:Int}{es es':List Pt}{u v:Int}
theorem aq1(M:s6 nd es)(hj:j<es.length):((bp2 nd es (e_ es j):Nat):Int)=e_ (j6 nd es) j:=by
 unfold bp2
 rw [idx_eq M hj]
 have:=ap9 M (i:=(j:Int)) om om
 omega
structure NxE (nd:Int) (es':List Pt) (k:Nat) (x:Int):Prop where
 low:0<=e_ (j6 nd es') k/\e_ (j6 nd es') k<=x
 up:x<=100
theorem ak6(M:s6 nd es)(hj:j<es.length):0<=e_ (j6 nd es) j/\e_ (j6 nd es) j<=64:=by
 have h1:=ak7 M (u:=(j:Int)) om (by rw [G3 M];omega)
 have:=M.rng
 omega
theorem as6(hG:s6 nd es)(M:s6 nd es')(hk:k<es'.length)(h:au1 nd es (e_ es' k).u (e_ es' k).v y):(0<=y/\y<es.length/\e_ es y=e_ es' k)\/(y = -1/\e_ es' k∉es):=by
 have hm:=Bp (xs:=es') (i:=(k:Int)) om om
 have hs:=K7 (e:=e_ es' k) (by have:=M.Z1 _ hm;omega)
 unfold au1 at h
 rw [hs] at h
 rcases h with ⟨_,j,rfl,hj,e⟩|⟨rfl,h1|h1⟩
 ·exact .inl ⟨by omega,by omega,e⟩
 ·exact absurd (s4.2 hG) h1
 exact .inr ⟨rfl,h1⟩
theorem fy6(h:R5 nd es es' u v)(hk:k<es'.length)(hf:au1 nd es (e_ es' k).u (e_ es' k).v y)(hy:y<0):NxE nd es' k ((j3 nd es' u v).length:Int):=by
 have hm:=Bp (xs:=es') (i:=(k:Int)) om om
 rcases as6 h.ok h.ok' hk hf with M|⟨_,M⟩
 ·omega
 have e:=((h.mem _).1 hm).resolve_left M
 have h2:=h.db5
 have h3:=aq1 h.ok' hk
 rw [e] at h3
 have h4:=ap9 h.ok' (i:=(k:Int)) om om
 have h5:=M2 nd es' u v
 exact ⟨by omega,by omega⟩
theorem fy7(h:R5 nd es es' u v)(M:k<es'.length)(hf:au1 nd es (e_ es' k).u (e_ es' k).v y)(hy:¬y<0):NxE nd es' k (e_ (j6 nd es) y+1):=by
 rcases as6 h.ok h.ok' M hf with ⟨h0,h1,e⟩|h1
 ·obtain ⟨j,rfl⟩:=Hm h0
  have hj:j<es.length:=by omega
  have h2:=(h.fv8 (e:=e_ es j)<|Bp om om).2
  have h3:=aq1 h.ok' M
  rw [←e] at h3
  have h4:=aq1 h.ok hj
  have h5:=ap9 h.ok' (i:=(k:Int)) om om
  have h6:=ak6 h.ok hj
  exact ⟨by omega,by omega⟩
 omega
theorem fj3(h:R5 nd es es' u v)(hk:k<es.length)(hf:au1 nd es' (e_ es k).u (e_ es k).v y):0<=y/\NxE nd es k (e_ (j6 nd es') y):=by
 have M:=Bp (xs:=es) (i:=(k:Int)) om om
 rcases as6 h.ok' h.ok hk hf with ⟨h0,h1,e⟩|⟨_,h1⟩
 ·obtain ⟨j,rfl⟩:=Hm h0
  have hj:j<es'.length:=by omega
  have h2:=(h.fv8 M).1
  have h3:=aq1 h.ok hk
  have h4:=aq1 h.ok' hj
  rw [e] at h4
  have h5:=ap9 h.ok (i:=(k:Int)) om om
  have h6:=ak6 h.ok' hj
  exact ⟨h0,⟨by omega,by omega⟩⟩
 exact absurd ((h.mem _).2 (.inl M)) h1
structure NxI (nd:Int) (es':List Pt) (k:Nat) (b:List Int):Prop where
 len:b.length=k
 val:∀i:Nat,i<k->NxE nd es' i (e_ b i)
theorem NxI.zero:NxI nd es' 0 []:=⟨rfl,λi h=>absurd h (Nat.not_lt_zero _)⟩
theorem NxI.next{x:Int}(h:NxI nd es' k b)(M:NxE nd es' k x):NxI nd es' (k+1) (b++[x]):=⟨by rw [By,h.len];rfl,λi hi=>by
 by_cases e:i<k
 ·have e1:e_ (b++[x]) i=e_ b i:=by rw [Ct _ i (by rw [By,h.len];omega),Ct _ i<|by rw [h.len];exact e,List.getElem_append_left]
  rw [e1];exact h.val i e
 have e2:i=b.length:=by rw [h.len];omega
 have e1:e_ (b++[x]) i=x:=by subst e2;rw [Ct _ _ (by simp)];simp
 rw [e1,show i=k by omega];exact M⟩
theorem NxI.all(h:NxI nd es' es'.length b):TrB nd es' b/\∀x∈b,0<=x/\x<=1000:=by
 refine ⟨⟨h.len,λi h0 M=>?_⟩,λx hx=>?_⟩
 ·obtain ⟨j,rfl⟩:=Hm h0
  exact (h.val j om).low
 obtain ⟨j,hj,rfl⟩:=aw0 hx
 rw [h.len] at hj
 have M:=h.val j hj
 have h2:=M.low
 have h3:=M.up
 omega
theorem df7(h:R5 nd es es' u v):es'.length=es.length+1:=by
 have M:es'.Perm (j4 u v::es):=(Hp (Ff h.ok'.asc)<|Hx.2 ⟨h.no,Ff h.ok.asc⟩).2 λp=>by rw [h.mem,Fw];exact Or.comm
 rw [M.length_eq];rfl
end
theorem bb2{nd:Int}{M:Nat}{es:List Pt}{bs:List Int}(hl:Sl κ I (.slice ea es.length ec) es)(hG:s6 nd es)(hB:TrB nd es bs)(aa:∀x∈bs,0<=x/\x<=1000)(hT:F4 κ I 0 p6):eu prog κ 288 [.agg #[e7 nd,.slice ea es.length ec],.slice ba bs.length M] (vk 3 ba M bs::I) λr J=>r = .slice ba (j6 nd es).length M/\J=vk 3 ba M (j6 nd es)::I:=by
 have e:bs.length=(j6 nd es).length:=by rw [G3 hG];exact hB.len
 exact (fr6 hl hG hB aa hT).mono λr J h=>⟨h.1.trans<|by rw [e],h.2.trans<|by rw [e]⟩
theorem ff2{nd u v:Int}{es es':List Pt}(hl:Sl κ I (.slice ea es.length ec) es)(hm:Sl κ I (.slice na (j6 nd es).length nc) (j6 nd es))(M:Sl κ I (.slice ga es'.length gc) es')(h:R5 nd es es' u v)(hT:F4 κ I 0 p6):eu prog κ 287 [.agg #[e7 nd,.slice ea es.length ec,.slice na (j6 nd es).length nc],.agg #[e7 nd,.slice ga es'.length gc],e7 u,e7 v] I (λr J=>∃(a:Option Addr) (c:Nat) (w:Value),r = .tuple #[.agg #[e7 nd,.slice ga es'.length gc,.slice a (j6 nd es').length c],w]/\J=vk 3 a c (j6 nd es')::I):=by
 have be:=q9 h.ok
 have a0:=q9 h.ok'
 have a3:=df7 h
 have ad:=G3 h.ok
 have ab:=G3 h.ok'
 refine Ce4 Tryz.func287 C C ?_
 refine Ak<|Ge1 (Au (cs:=[_,_,_]) C C C) λb1=>Ge1 (Au (cs:=[_,_]) C C C) λb2=>Ge1 (Aj L4 C) λb3=>Ga C<|Ar<|Ak<|Gf K4 C<|Gl an1 ?_
 refine Gr (Bk Ay C)<|Gf bf8 C<|Gf K4 C<|Gl an1 ?_
 refine Gr (Bk Ay C)<|Gr (Ed C C)<|Ga C<|Ar<|A1 (S6 10 8 5 4 2 3)<|Ak<|Ga C<|Ar<|Ax<|Ak<|Gf K4 C<|Gl an1 ?_
 refine Gr (Bk Ay C)<|Gm C<|Ar<|A7<|B9 (σ:=Nat×(Option Addr)×Nat×(List Int)) (λs=>([(2,e7 u),(3,e7 v),(4,pt b1),(5,pt b2),(8,pt b3),(10,.bool<|decide<|((es.length:Nat):Int)<((es'.length:Nat):Int)),(11,.slice s.2.1 s.2.2.2.length s.2.2.1),(25,.slice ga es'.length gc),(26,e7<|((es'.length:Nat):Int)),(27,e7 ((s.1:Nat):Int))]:Env)) (λs=>vk 3 s.2.1 s.2.2.1 s.2.2.2::e8 b3 [e7 0,.slice none 0 0,.slice none 0 0] 41::e8 b2 [e7 nd,.slice ga es'.length gc] 38::e8 b1 [e7 nd,.slice ea es.length ec,.slice na (j6 nd es).length nc] 41::I) (λs=>(s.1<=es'.length)/\(NxI nd es' s.1 s.2.2.2)) (λs=>es'.length - s.1) (0,none,0,([]:List Int)) ⟨om,NxI.zero⟩ (cx4<|cx2<|Aa (Db C<|by first|rfl|simp)<|cx2<|Aa Co Bb) (A9 (show Fit κ _ _ from Az)<|B7 (α:=Int) _ _) ?_
 rintro ⟨k,ba,bc,bd⟩ hp
 dsimp only at hp ⊢
 obtain ⟨hk,hb⟩:=hp
 have a6:=hb.len
 refine Ak<|Gr (Bl C C)<|Ar<|Ax<|Am C (λar=>?_)<|λar=>?_
 ·refine Bc (Ao<|Ax<|A7<|Ak<|Gr (A2 (α:=Pt) (xs:=es') Ay s8 C C (A4 M) om<|by first|omega|(rcases aa with ⟨q1,q2,q3⟩|q1<;>omega))<|Gr (C6 (α:=Pt) (xs:=es') s8 C (A4 M) om<|by first|omega|(rcases aa with ⟨q1,q2,q3⟩|q1<;>omega))<|Ge1 (Aj s8 C) λb4=>Ge0 (Cs s8) ?_)
  refine Ar<|A1 (S11 13 2 3 4 5 8 10 11 25 26 27)<|Ak<|Gf bf8 C<|Gl2 J8 ?_
  refine Gf N8 C<|Gl ef ?_
  refine Gf N7 C<|Gl ef ?_
  refine G.e (Ac c_ C C<|au2 (nd:=nd) (A4 hl) ((e_ es' k).u) ((e_ es' k).v) om) ?_
  rintro _ _ ⟨_,_,⟨y5,rfl,aj,rfl⟩,rfl,rfl⟩
  refine Ga C ?_
  have aa:=as6 h.ok h.ok' om aj
  have ah:=λq:0<=y5/\y5<es.length=>ak6 h.ok (j:=(y5).toNat) om
  have ak:=λq:0<=y5=>show (((y5).toNat:Nat):Int)=y5 from Gz q
  refine Ar<|A1 (S11 14 2 3 4 5 8 10 11 25 26 27)<|A7<|Ak<|Gm C<|Gr (Bl C C)<|Ga C<|Ar<|A1 (S12 46 14 2 3 4 5 8 10 11 25 26 27 C C C C C C C C C C C C)<|Am C (λan=>?_)<|λan=>?_
  ·refine A6 (Gm C<|Gl2 J8 ?_)
   refine Gm C<|Gm C<|Gc2 (Ac c_ C C<|bo6 (nd:=nd) (A4 M) u v<|A8 hT Ah) λa9 a4=>?_
   have ai:=fy6 h om aj an
   refine Gr (Bk Ab C)<|Ge1 (B2 (α:=Int) (cs:=[_]) (xs:=[(((j3 nd es' u v).length:Nat):Int)]) Ab ef C C dc dc C C C C) λa8=>?_
   refine Ge2 (Br (α:=Int) (e:=3) (xs:=bd) (ys:=([(((j3 nd es' u v).length:Nat):Int)]:List Int)) Ab ef C C C mm A5 lcn dc C<|λ_ _=>am) λax ap=>?_
   exact Ga C<|Bq<|Av<|Av<|Ao<|A1 (S10 11 2 3 4 5 8 10 25 26 27)<|A6<|Gr (Cv C C<|by first|(unfold InR;omega)|rcases aa with ⟨q1,q2,q3⟩|q1;(· have q4:=ah ⟨q1,q2⟩;rw [ak q1] at q4;unfold InR;omega);(· omega))<|Gm C<|Bq<|Bt ((k+1),(ax),(ap),(bd++([(((j3 nd es' u v).length:Nat):Int)]:List Int)))<|by dsimp only;exact ⟨om,(hb.next ai)⟩
  refine Ak<|Gm C<|Ga C<|Ar<|A1 (S12 57 14 2 3 4 5 8 10 11 25 26 27 C C C C C C C C C C C C)<|Am C (λay=>?_)<|λay=>?_
  ·refine A6 (Gm C<|Gf cf7 C<|Gl U1 ?_)
   refine Gm C<|Gr (A2 (α:=Int) (xs:=j6 nd es) Ab ef C C (A4 hm) om<|by first|omega|(rcases aa with ⟨q1,q2,q3⟩|q1<;>omega))<|Gr (B6 (xs:=j6 nd es) ef C (A4 hm) om<|by first|omega|(rcases aa with ⟨q1,q2,q3⟩|q1<;>omega)) ?_
   have ai:=fy7 h om aj an
   refine Gr (Cv C C<|by first|(unfold InR;omega)|rcases aa with ⟨q1,q2,q3⟩|q1;(· have q4:=ah ⟨q1,q2⟩;rw [ak q1] at q4;unfold InR;omega);(· omega))<|Ge1 (B2 (α:=Int) (cs:=[_]) (xs:=[(e_ (j6 nd es) y5)+1]) Ab ef C C dc dc C C C C) λaz=>?_
   refine Ge2 (Br (α:=Int) (e:=3) (xs:=bd) (ys:=([(e_ (j6 nd es) y5)+1]:List Int)) Ab ef C C C mm A5 lcn dc C<|λ_ _=>am) λaq ao=>?_
   exact Ga C<|Bq<|Av<|Av<|Ao<|A1 (S10 11 2 3 4 5 8 10 25 26 27)<|A6<|Gr (Cv C C<|by first|(unfold InR;omega)|rcases aa with ⟨q1,q2,q3⟩|q1;(· have q4:=ah ⟨q1,q2⟩;rw [ak q1] at q4;unfold InR;omega);(· omega))<|Gm C<|Bq<|Bt ((k+1),(aq),(ao),(bd++([(e_ (j6 nd es) y5)+1]:List Int)))<|by dsimp only;exact ⟨om,(hb.next ai)⟩
  omega
 refine Ci<|Aw<|Aw<|Bi<|Ao<|Ax<|Ba mixed<|Bx (e8 b3 [e7 0,.slice none 0 0,.slice none 0 0] 41::e8 b2 [e7 nd,.slice ga es'.length gc] 38::e8 b1 [e7 nd,.slice ea es.length ec,.slice na (j6 nd es).length nc] 41::I) 6<|Dr 0 C (Bm (vs:=[_,_]) J8) ?_
 have av:k=es'.length:=by omega
 rw [av] at hb
 have ae:=hb.all
 refine Dr 1 C (Bm (vs:=[_,_]) J8) ?_
 refine Dr 2 C (Aq C)<|C9 (rs:=[3,5]) kr C C<|Ej ?_<|Do ?_
 ·refine Se C (Ac c_ C C<|Cm (J:=vk 3 ba bc bd::e8 b3 [e7 0,.slice none 0 0,.slice none 0 0] 41::e8 b2 [e7 nd,.slice ga es'.length gc] 38::e8 b1 [e7 nd,.slice ea es.length ec,.slice na (j6 nd es).length nc] 41::I) Az<|bb2 (nd:=nd) (es:=es') (bs:=bd) (A4 M) h.ok' ae.1 ae.2<|A8 hT Ah) ?_
  rintro _ _ ⟨_,_,⟨rfl,rfl⟩,rfl,rfl⟩
  refine ⟨Az,?_⟩
  refine Dr 4 C (Cl (cells:=[_,_,_]) L4 Ew fx6 C C)<|Ds1 5<|Se1 C (Aj L4 C) λau=>?_
  refine Cg kr ?_
  refine Ae 6 C (Da L4) ?_
  rintro _ _ ⟨rfl,rfl⟩
  refine Ch kr ?_
  refine Ao<|A1 (S3 15 4 8)<|Ax<|Ba mixed<|Bx (e8 au [e7 nd,.slice ga es'.length gc,.slice ba (j6 nd es').length bc] 41::vk 3 ba bc (j6 nd es')::e8 b3 [e7 0,.slice none 0 0,.slice none 0 0] 41::e8 b2 [e7 nd,.slice ga es'.length gc] 38::e8 b1 [e7 nd,.slice ea es.length ec,.slice na (j6 nd es).length nc] 41::I) 4<|Dr 0 C (Bm (vs:=[_,_,_]) L4) ?_
  refine C9 (rs:=[1,2]) kr C C<|Ej ?_<|Do ?_
  ·refine Sr C (Bm (vs:=[_,_,_]) L4) Ai ?_
   refine Ds1 2<|Sr C (Bm (vs:=[_,_,_]) L4) Ai ?_
   refine Ds1 3<|Se C (Ac c_ C C<|P2 (nd:=nd) (nd':=nd) (es:=es) (es':=es') (num:=j6 nd es) (num':=j6 nd es') (A4 hl) (A4 hm) (A4 M) A5 om om ad ab) ?_
   rintro _ _ ⟨_,_,⟨a1,rfl,rfl⟩,rfl,rfl⟩
   refine ⟨Ai,?_⟩
   refine Cg kr ?_
   refine Ae 4 C (Da L4) ?_
   rintro _ _ ⟨rfl,rfl⟩
   refine Dg (i:=5) kr C (Ap C) C C (Bh C) ?_
   refine Ch kr ?_
   exact Ao<|B3<|Cp C L4 C C mm C (vk 3 ba bc (j6 nd es')::I) Az ⟨ba,bc,_,rfl,rfl⟩
  refine Sr C (Bm (vs:=[_,_,_]) L4) Ai ?_
  refine Ds1 1<|Sr C (Bm (vs:=[_,_,_]) L4) Ai ?_
  refine Ds1 3<|Se C (Ac c_ C C<|P2 (nd:=nd) (nd':=nd) (es:=es) (es':=es') (num:=j6 nd es) (num':=j6 nd es') (A4 hl) (A4 hm) (A4 M) A5 om om ad ab) ?_
  rintro _ _ ⟨_,_,⟨bb,rfl,rfl⟩,rfl,rfl⟩
  refine ⟨Ai,?_⟩
  refine Cg kr ?_
  refine Ae 4 C (Da L4) ?_
  rintro _ _ ⟨rfl,rfl⟩
  refine Dg (i:=5) kr C (Ap C) C C (Bh C) ?_
  refine Ch kr ?_
  exact Ao<|B3<|Cp C L4 C C mm C (vk 3 ba bc (j6 nd es')::I) Az ⟨ba,bc,_,rfl,rfl⟩
 refine Se1 C (Aj L4 C) λaw=>?_
 refine Ds1 3<|Se C (Ac c_ C C<|Cm (J:=vk 3 ba bc bd::e8 aw [e7 0,.slice none 0 0,.slice none 0 0] 41::e8 b3 [e7 0,.slice none 0 0,.slice none 0 0] 41::e8 b2 [e7 nd,.slice ga es'.length gc] 38::e8 b1 [e7 nd,.slice ea es.length ec,.slice na (j6 nd es).length nc] 41::I) Az<|bb2 (nd:=nd) (es:=es') (bs:=bd) (A4 M) h.ok' ae.1 ae.2<|A8 hT Ah) ?_
 rintro _ _ ⟨_,_,⟨rfl,rfl⟩,rfl,rfl⟩
 refine ⟨Az,?_⟩
 refine Dr 4 C (Cl (cells:=[_,_,_]) L4 Ew fx6 C C)<|Cg kr ?_
 refine Ae 6 C (Da L4) ?_
 rintro _ _ ⟨rfl,rfl⟩
 refine Ch kr ?_
 refine Ao<|A1 (S3 15 4 8)<|Ax<|Ba mixed<|Ee 4<|Dr 0 C (Bm (vs:=[_,_,_]) L4) ?_
 refine C9 (rs:=[1,2]) kr C C<|Ej ?_<|Do ?_
 ·refine Sr C (Bm (vs:=[_,_,_]) L4) Ai ?_
  refine Ds1 2<|Sr C (Bm (vs:=[_,_,_]) L4) Ai ?_
  refine Ds1 3<|Se C (Ac c_ C C<|P2 (nd:=nd) (nd':=nd) (es:=es) (es':=es') (num:=j6 nd es) (num':=j6 nd es') (A4 hl) (A4 hm) (A4 M) A5 om om ad ab) ?_
  rintro _ _ ⟨_,_,⟨a7,rfl,rfl⟩,rfl,rfl⟩
  refine ⟨Ai,?_⟩
  refine Cg kr ?_
  refine Ae 4 C (Da L4) ?_
  rintro _ _ ⟨rfl,rfl⟩
  refine Dg (i:=5) kr C (Ap C) C C (Bh C) ?_
  refine Ch kr ?_
  exact Ao<|B3<|Cp C L4 C C mm C (vk 3 ba bc (j6 nd es')::I) Az ⟨ba,bc,_,rfl,rfl⟩
 refine Sr C (Bm (vs:=[_,_,_]) L4) Ai ?_
 refine Ds1 1<|Sr C (Bm (vs:=[_,_,_]) L4) Ai ?_
 refine Ds1 3<|Se C (Ac c_ C C<|P2 (nd:=nd) (nd':=nd) (es:=es) (es':=es') (num:=j6 nd es) (num':=j6 nd es') (A4 hl) (A4 hm) (A4 M) A5 om om ad ab) ?_
 rintro _ _ ⟨_,_,⟨a5,rfl,rfl⟩,rfl,rfl⟩
 refine ⟨Ai,?_⟩
 refine Cg kr ?_
 refine Ae 4 C (Da L4) ?_
 rintro _ _ ⟨rfl,rfl⟩
 refine Dg (i:=5) kr C (Ap C) C C (Bh C) ?_
 refine Ch kr ?_
 exact Ao<|B3<|Cp C L4 C C mm C (vk 3 ba bc (j6 nd es')::I) Az ⟨ba,bc,_,rfl,rfl⟩
theorem ff3{nd u v:Int}{es es':List Pt}(hl:Sl κ I (.slice ea es.length ec) es)(hm:Sl κ I (.slice na (j6 nd es).length nc) (j6 nd es))(M:Sl κ I (.slice ga es'.length gc) es')(h:R5 nd es' es u v)(hT:F4 κ I 0 p6):eu prog κ 287 [.agg #[e7 nd,.slice ea es.length ec,.slice na (j6 nd es).length nc],.agg #[e7 nd,.slice ga es'.length gc],e7 u,e7 v] I (λr J=>∃(a:Option Addr) (c:Nat) (w:Value),r = .tuple #[.agg #[e7 nd,.slice ga es'.length gc,.slice a (j6 nd es').length c],w]/\J=vk 3 a c (j6 nd es')::I):=by
 have az:=q9 h.ok'
 have aw:=q9 h.ok
 have a1:=df7 h
 have ae:=G3 h.ok'
 have aa:=G3 h.ok
 refine Ce4 Tryz.func287 C C ?_
 refine Ak<|Ge1 (Au (cs:=[_,_,_]) C C C) λb1=>Ge1 (Au (cs:=[_,_]) C C C) λb2=>Ge1 (Aj L4 C) λb3=>Ga C<|Ar<|Ak<|Gf K4 C<|Gl an1 ?_
 refine Gr (Bk Ay C)<|Gf bf8 C<|Gf K4 C<|Gl an1 ?_
 refine Gr (Bk Ay C)<|Gr (Ed C C)<|Ga C<|Ar<|A1 (S6 10 8 5 4 2 3)<|Ak<|Ga C<|Ar<|Ax<|Ak<|Gf K4 C<|Gl an1 ?_
 refine Gr (Bk Ay C)<|Gm C<|Ar<|A7<|B9 (σ:=Nat×(Option Addr)×Nat×(List Int)) (λs=>([(2,e7 u),(3,e7 v),(4,pt b1),(5,pt b2),(8,pt b3),(10,.bool<|decide<|((es.length:Nat):Int)<((es'.length:Nat):Int)),(11,.slice s.2.1 s.2.2.2.length s.2.2.1),(25,.slice ga es'.length gc),(26,e7<|((es'.length:Nat):Int)),(27,e7 ((s.1:Nat):Int))]:Env)) (λs=>vk 3 s.2.1 s.2.2.1 s.2.2.2::e8 b3 [e7 0,.slice none 0 0,.slice none 0 0] 41::e8 b2 [e7 nd,.slice ga es'.length gc] 38::e8 b1 [e7 nd,.slice ea es.length ec,.slice na (j6 nd es).length nc] 41::I) (λs=>(s.1<=es'.length)/\(NxI nd es' s.1 s.2.2.2)) (λs=>es'.length - s.1) (0,none,0,([]:List Int)) ⟨om,NxI.zero⟩ (cx4<|cx2<|Aa (Db C<|by first|rfl|simp)<|cx2<|Aa Co Bb) (A9 (show Fit κ _ _ from Az)<|B7 (α:=Int) _ _) ?_
 rintro ⟨k,ba,bc,bd⟩ hp
 dsimp only at hp ⊢
 obtain ⟨hk,hb⟩:=hp
 have a4:=hb.len
 refine Ak<|Gr (Bl C C)<|Ar<|Ax<|Am C (λar=>?_)<|λar=>?_
 ·refine Bc (Ao<|Ax<|A7<|Ak<|Gr (A2 (α:=Pt) (xs:=es') Ay s8 C C (A4 M) om<|by first|omega|(rcases ab with ⟨q1,q2,q3⟩|q1<;>omega))<|Gr (C6 (α:=Pt) (xs:=es') s8 C (A4 M) om<|by first|omega|(rcases ab with ⟨q1,q2,q3⟩|q1<;>omega))<|Ge1 (Aj s8 C) λb4=>Ge0 (Cs s8) ?_)
  refine Ar<|A1 (S11 13 2 3 4 5 8 10 11 25 26 27)<|Ak<|Gf bf8 C<|Gl2 J8 ?_
  refine Gf N8 C<|Gl ef ?_
  refine Gf N7 C<|Gl ef ?_
  refine G.e (Ac c_ C C<|au2 (nd:=nd) (A4 hl) ((e_ es' k).u) ((e_ es' k).v) om) ?_
  rintro _ _ ⟨_,_,⟨y5,rfl,ah,rfl⟩,rfl,rfl⟩
  refine Ga C ?_
  have ab:=as6 h.ok' h.ok om ah
  have ai:=λq:0<=y5/\y5<es.length=>ak6 h.ok' (j:=(y5).toNat) om
  have an:=λq:0<=y5=>show (((y5).toNat:Nat):Int)=y5 from Gz q
  refine Ar<|A1 (S11 14 2 3 4 5 8 10 11 25 26 27)<|A7<|Ak<|Gm C<|Gr (Bl C C)<|Ga C<|Ar<|A1 (S12 46 14 2 3 4 5 8 10 11 25 26 27 C C C C C C C C C C C C)<|Am C (λav=>?_)<|λav=>?_
  ·exact absurd (fj3 h om ah).1 om
  refine Ak<|Gm C<|Ga C<|Ar<|A1 (S12 57 14 2 3 4 5 8 10 11 25 26 27 C C C C C C C C C C C C)<|Am C (λaq=>?_)<|λaq=>?_
  ·omega
  refine A6<|Gm C<|Gf cf7 C<|Gl U1 ?_
  refine Gm C<|Gr (A2 (α:=Int) (xs:=j6 nd es) Ab ef C C (A4 hm) om<|by first|omega|(rcases ab with ⟨q1,q2,q3⟩|q1<;>omega))<|Gr (B6 (xs:=j6 nd es) ef C (A4 hm) om<|by first|omega|(rcases ab with ⟨q1,q2,q3⟩|q1<;>omega)) ?_
  have aj:=(fj3 h om ah).2
  refine Ge1 (B2 (α:=Int) (cs:=[_]) (xs:=[e_ (j6 nd es) y5]) Ab ef C C dc dc C C C C) λax=>?_
  refine Ge2 (Br (α:=Int) (e:=3) (xs:=bd) (ys:=([e_ (j6 nd es) y5]:List Int)) Ab ef C C C mm A5 lcn dc C<|λ_ _=>am) λao au=>?_
  exact Ga C<|Bq<|Av<|Av<|Ao<|A1 (S10 11 2 3 4 5 8 10 25 26 27)<|A6<|Gr (Cv C C<|by first|(unfold InR;omega)|rcases ab with ⟨q1,q2,q3⟩|q1;(· have q4:=ai ⟨q1,q2⟩;rw [an q1] at q4;unfold InR;omega);(· omega))<|Gm C<|Bq<|Bt ((k+1),(ao),(au),(bd++([e_ (j6 nd es) y5]:List Int)))<|by dsimp only;exact ⟨om,(hb.next aj)⟩
 refine Ci<|Aw<|Aw<|Bi<|Ao<|Ax<|Ba mixed<|Bx (e8 b3 [e7 0,.slice none 0 0,.slice none 0 0] 41::e8 b2 [e7 nd,.slice ga es'.length gc] 38::e8 b1 [e7 nd,.slice ea es.length ec,.slice na (j6 nd es).length nc] 41::I) 6<|Dr 0 C (Bm (vs:=[_,_]) J8) ?_
 have ak:k=es'.length:=by omega
 rw [ak] at hb
 have ad:=hb.all
 refine Dr 1 C (Bm (vs:=[_,_]) J8) ?_
 refine Dr 2 C (Aq C)<|C9 (rs:=[3,5]) kr C C<|Ej ?_<|Do ?_
 ·refine Se C (Ac c_ C C<|Cm (J:=vk 3 ba bc bd::e8 b3 [e7 0,.slice none 0 0,.slice none 0 0] 41::e8 b2 [e7 nd,.slice ga es'.length gc] 38::e8 b1 [e7 nd,.slice ea es.length ec,.slice na (j6 nd es).length nc] 41::I) Az<|bb2 (nd:=nd) (es:=es') (bs:=bd) (A4 M) h.ok ad.1 ad.2<|A8 hT Ah) ?_
  rintro _ _ ⟨_,_,⟨rfl,rfl⟩,rfl,rfl⟩
  refine ⟨Az,?_⟩
  refine Dr 4 C (Cl (cells:=[_,_,_]) L4 Ew fx6 C C)<|Ds1 5<|Se1 C (Aj L4 C) λb9=>?_
  refine Cg kr ?_
  refine Ae 6 C (Da L4) ?_
  rintro _ _ ⟨rfl,rfl⟩
  refine Ch kr ?_
  refine Ao<|A1 (S3 15 4 8)<|Ax<|Ba mixed<|Bx (e8 b9 [e7 nd,.slice ga es'.length gc,.slice ba (j6 nd es').length bc] 41::vk 3 ba bc (j6 nd es')::e8 b3 [e7 0,.slice none 0 0,.slice none 0 0] 41::e8 b2 [e7 nd,.slice ga es'.length gc] 38::e8 b1 [e7 nd,.slice ea es.length ec,.slice na (j6 nd es).length nc] 41::I) 4<|Dr 0 C (Bm (vs:=[_,_,_]) L4) ?_
  refine C9 (rs:=[1,2]) kr C C<|Ej ?_<|Do ?_
  ·refine Sr C (Bm (vs:=[_,_,_]) L4) Ai ?_
   refine Ds1 2<|Sr C (Bm (vs:=[_,_,_]) L4) Ai ?_
   refine Ds1 3<|Se C (Ac c_ C C<|P2 (nd:=nd) (nd':=nd) (es:=es) (es':=es') (num:=j6 nd es) (num':=j6 nd es') (A4 hl) (A4 hm) (A4 M) A5 om om ae aa) ?_
   rintro _ _ ⟨_,_,⟨a5,rfl,rfl⟩,rfl,rfl⟩
   refine ⟨Ai,?_⟩
   refine Cg kr ?_
   refine Ae 4 C (Da L4) ?_
   rintro _ _ ⟨rfl,rfl⟩
   refine Dg (i:=5) kr C (Ap C) C C (Bh C) ?_
   refine Ch kr ?_
   exact Ao<|B3<|Cp C L4 C C mm C (vk 3 ba bc (j6 nd es')::I) Az ⟨ba,bc,_,rfl,rfl⟩
  refine Sr C (Bm (vs:=[_,_,_]) L4) Ai ?_
  refine Ds1 1<|Sr C (Bm (vs:=[_,_,_]) L4) Ai ?_
  refine Ds1 3<|Se C (Ac c_ C C<|P2 (nd:=nd) (nd':=nd) (es:=es) (es':=es') (num:=j6 nd es) (num':=j6 nd es') (A4 hl) (A4 hm) (A4 M) A5 om om ae aa) ?_
  rintro _ _ ⟨_,_,⟨a3,rfl,rfl⟩,rfl,rfl⟩
  refine ⟨Ai,?_⟩
  refine Cg kr ?_
  refine Ae 4 C (Da L4) ?_
  rintro _ _ ⟨rfl,rfl⟩
  refine Dg (i:=5) kr C (Ap C) C C (Bh C) ?_
  refine Ch kr ?_
  exact Ao<|B3<|Cp C L4 C C mm C (vk 3 ba bc (j6 nd es')::I) Az ⟨ba,bc,_,rfl,rfl⟩
 refine Se1 C (Aj L4 C) λap=>?_
 refine Ds1 3<|Se C (Ac c_ C C<|Cm (J:=vk 3 ba bc bd::e8 ap [e7 0,.slice none 0 0,.slice none 0 0] 41::e8 b3 [e7 0,.slice none 0 0,.slice none 0 0] 41::e8 b2 [e7 nd,.slice ga es'.length gc] 38::e8 b1 [e7 nd,.slice ea es.length ec,.slice na (j6 nd es).length nc] 41::I) Az<|bb2 (nd:=nd) (es:=es') (bs:=bd) (A4 M) h.ok ad.1 ad.2<|A8 hT Ah) ?_
 rintro _ _ ⟨_,_,⟨rfl,rfl⟩,rfl,rfl⟩
 refine ⟨Az,?_⟩
 refine Dr 4 C (Cl (cells:=[_,_,_]) L4 Ew fx6 C C)<|Cg kr ?_
 refine Ae 6 C (Da L4) ?_
 rintro _ _ ⟨rfl,rfl⟩
 refine Ch kr ?_
 refine Ao<|A1 (S3 15 4 8)<|Ax<|Ba mixed<|Ee 4<|Dr 0 C (Bm (vs:=[_,_,_]) L4) ?_
 refine C9 (rs:=[1,2]) kr C C<|Ej ?_<|Do ?_
 ·refine Sr C (Bm (vs:=[_,_,_]) L4) Ai ?_
  refine Ds1 2<|Sr C (Bm (vs:=[_,_,_]) L4) Ai ?_
  refine Ds1 3<|Se C (Ac c_ C C<|P2 (nd:=nd) (nd':=nd) (es:=es) (es':=es') (num:=j6 nd es) (num':=j6 nd es') (A4 hl) (A4 hm) (A4 M) A5 om om ae aa) ?_
  rintro _ _ ⟨_,_,⟨a0,rfl,rfl⟩,rfl,rfl⟩
  refine ⟨Ai,?_⟩
  refine Cg kr ?_
  refine Ae 4 C (Da L4) ?_
  rintro _ _ ⟨rfl,rfl⟩
  refine Dg (i:=5) kr C (Ap C) C C (Bh C) ?_
  refine Ch kr ?_
  exact Ao<|B3<|Cp C L4 C C mm C (vk 3 ba bc (j6 nd es')::I) Az ⟨ba,bc,_,rfl,rfl⟩
 refine Sr C (Bm (vs:=[_,_,_]) L4) Ai ?_
 refine Ds1 1<|Sr C (Bm (vs:=[_,_,_]) L4) Ai ?_
 refine Ds1 3<|Se C (Ac c_ C C<|P2 (nd:=nd) (nd':=nd) (es:=es) (es':=es') (num:=j6 nd es) (num':=j6 nd es') (A4 hl) (A4 hm) (A4 M) A5 om om ae aa) ?_
 rintro _ _ ⟨_,_,⟨ay,rfl,rfl⟩,rfl,rfl⟩
 refine ⟨Ai,?_⟩
 refine Cg kr ?_
 refine Ae 4 C (Da L4) ?_
 rintro _ _ ⟨rfl,rfl⟩
 refine Dg (i:=5) kr C (Ap C) C C (Bh C) ?_
 refine Ch kr ?_
 exact Ao<|B3<|Cp C L4 C C mm C (vk 3 ba bc (j6 nd es')::I) Az ⟨ba,bc,_,rfl,rfl⟩
end Go.Sl
namespace Go.Sl
open Go.Proofs
set_option maxRecDepth 4000
variable{nd u v:Int}{ea na:Option Addr}{ec nc:Nat}{es:List Pt}
variable {κ:Ctx}{I:List Item}
attribute [local irreducible] W G V D A j8 Eff
theorem cz0(hl:Sl κ I (.slice ea es.length ec) es)(hm:Sl κ I (.slice na (j6 nd es).length nc) (j6 nd es))(hG:s6 nd es)(he:F5 nd u v)(hn:j4 u v∉es)(hT:F4 κ I 0 p6):eu prog κ 283 [.agg #[e7 nd,.slice ea es.length ec,.slice na (j6 nd es).length nc],e7 u,e7 v] I (λr J=>∃(ga:Option Addr) (gc:Nat) (a:Option Addr) (c:Nat) (w:Value),r = .tuple #[.agg #[e7 nd,.slice ga (z7 Pt.lt es (j4 u v)).length gc,.slice a (j6 nd (z7 Pt.lt es (j4 u v))).length c],w,e7 0]/\J=vk 3 a c (j6 nd (z7 Pt.lt es (j4 u v)))::vk 105 ga gc (z7 Pt.lt es (j4 u v))::I):=by
 refine Ce3 Tryz.func283 C C ?_
 refine Ak<|Ge1 (Au (cs:=[_,_,_]) C C C) λb1=>Ge1 (Aj L4 C) λb2=>Z ?_
 refine Gc0 (Ac c_ C C<|cc3 (nd:=nd) (u:=u) (v:=v) (A4 hl) (A4 hm) hG he<|A8 hT Ah)<|Z ?_
 refine Am C (λae=>Z ?_)<|λae=>Z ?_
 ·refine Ge0 (Da L4) (Z ?_)
  exact absurd rfl asm
 refine G.e (Ac c_ C C<|bb6 (nd:=nd) (u:=u) (v:=v) (A4 hl) (add_zero hG he hn)<|by have:=q9 hG;omega) ?_
 rintro _ _ ⟨_,_,⟨ad,ab,rfl,rfl⟩,rfl,rfl⟩
 refine Z ?_
 refine Ge1 (Aj J8 C) λb5=>Ge0 (Cs J8)<|Z ?_
 refine Am C (λah=>Z ?_)<|λah=>Z ?_
 ·refine Ge0 (Da L4) (Z ?_)
  exact absurd rfl asm
 refine G.e (Ac c_ C C<|ff2 (nd:=nd) (u:=u) (v:=v) (A4 hl) (A4 hm) A5 (R5.add hG he hn)<|A8 hT Ah) ?_
 rintro _ _ ⟨_,_,⟨M,aa,w8,rfl,rfl⟩,rfl,rfl⟩
 refine Z ?_
 refine Ge1 (Aj L4 C) λb9=>Ge0 (Da L4)<|Z ?_
 refine Ge0 (Da L4)<|Z ?_
 exact Cu C L4 C C C mm C (vk 3 M aa (j6 nd<|z7 Pt.lt es<|j4 u v)::vk 105 ad ab (z7 Pt.lt es<|j4 u v)::I) Az ⟨ad,ab,M,aa,_,rfl,rfl⟩
theorem cz1(hl:Sl κ I (.slice ea es.length ec) es)(hm:Sl κ I (.slice na (j6 nd es).length nc) (j6 nd es))(hG:s6 nd es)(he:F5 nd u v)(hn:j4 u v∈es)(hT:F4 κ I 0 p6):eu prog κ 284 [.agg #[e7 nd,.slice ea es.length ec,.slice na (j6 nd es).length nc],e7 u,e7 v] I (λr J=>∃(ga:Option Addr) (gc:Nat) (a:Option Addr) (c:Nat) (w:Value),r = .tuple #[.agg #[e7 nd,.slice ga (j7 es (j4 u v)).length gc,.slice a (j6 nd (j7 es (j4 u v))).length c],w,e7 0]/\J=vk 3 a c (j6 nd (j7 es (j4 u v)))::vk 105 ga gc (j7 es (j4 u v))::I):=by
 refine Ce3 Tryz.func284 C C ?_
 refine Ak<|Ge1 (Au (cs:=[_,_,_]) C C C) λb1=>Ge1 (Aj L4 C) λb2=>Z ?_
 refine Gc0 (Ac c_ C C<|cc3 (nd:=nd) (u:=u) (v:=v) (A4 hl) (A4 hm) hG he<|A8 hT Ah)<|Z ?_
 refine Am C (λae=>Z ?_)<|λae=>Z ?_
 ·refine Ge0 (Da L4) (Z ?_)
  exact absurd rfl asm
 refine Gc2 (Ac c_ C C<|bb4 (nd:=nd) (u:=u) (v:=v) (A4 hl) (ba0 hG he hn)<|by have:=q9 hG;omega) λad ab=>Z ?_
 refine Ge1 (Aj J8 C) λb5=>Ge0 (Cs J8)<|Z ?_
 refine Am C (λah=>Z ?_)<|λah=>Z ?_
 ·refine Ge0 (Da L4) (Z ?_)
  exact absurd rfl asm
 refine G.e (Ac c_ C C<|ff3 (nd:=nd) (u:=u) (v:=v) (A4 hl) (A4 hm) A5 (R5.rem hG he hn)<|A8 hT Ah) ?_
 rintro _ _ ⟨_,_,⟨M,aa,w8,rfl,rfl⟩,rfl,rfl⟩
 refine Z ?_
 refine Ge1 (Aj L4 C) λb9=>Ge0 (Da L4)<|Z ?_
 refine Ge0 (Da L4)<|Z ?_
 exact Cu C L4 C C C mm C (vk 3 M aa (j6 nd<|j7 es<|j4 u v)::vk 105 ad ab (j7 es<|j4 u v)::I) Az ⟨ad,ab,M,aa,_,rfl,rfl⟩
end Go.Sl
