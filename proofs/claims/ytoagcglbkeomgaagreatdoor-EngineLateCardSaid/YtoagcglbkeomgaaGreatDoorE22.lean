/- A part of the proofs of statements of this seat: contracts of functions, and the plain laws that they lean on. No conditions. -/
import Derived.Test.YtoagcglbkeomgaaGreatDoorE21
set_option linter.unusedVariables false
set_option linter.unusedSimpArgs false
set_option linter.unusedSectionVars false
open Go.Proofs.Tryz (prog)
set_option maxHeartbeats 4000000
namespace Go.Sl
section
variable {α:Type}[Enc α]{κ:Ctx}{I:List Item}
theorem Fit.fz1{e:TypeId}{a:Option Addr}{n c k:Nat}{xs:List α}(hn:n=xs.length)(hk:k<=xs.length):Fit κ (vc e (.slice a n c) xs::I) (vc e (.slice (N9 a c k (Enc.sz α)) (xs.drop k).length (c - k)) (xs.drop k)::I):=by
 subst hn
 refine Fit.upd (At.head _ _ _) λw h=>⟨?_,λj ⟨o,m,c',hv,hc⟩=>?_⟩
 ·obtain ⟨a',cap,hv,h1,h2,h3,h4⟩:=h
  cases hv
  refine ⟨_,c - k,rfl,r8 _,by rw [Fz];omega,by omega,λhc=>?_⟩
  obtain ⟨b,off,aa,M,hb,h5,h6⟩:=h4 (by omega)
  refine ⟨b,off+k*Enc.sz α,aa,by rw [M];unfold N9;rw [An (by omega)];simp [G9],hb,?_,λj u hj=>?_⟩
  ·have e1:(c - k)*Enc.sz α+k*Enc.sz α=c*Enc.sz α:=by rw [←Jh];congr 1;omega
   omega
  rw [Z0,Jw] at hj
  rw [Mh]
  exact h6 _ u hj
 injection hv with M hm hcc
 subst hcc
 unfold N9 at M
 rw [An (by omega)] at M
 obtain ⟨a',cap,hv,h1,h2,h3,h4⟩:=h
 cases hv
 obtain ⟨b,off,aa,h5,hb,_⟩:=h4 (by omega)
 subst h5
 simp only [Option.map_some,Jt,G9] at M
 injection M with hb1
 subst hb1
 exact ⟨off,_,c,rfl,by omega⟩
end
end Go.Sl
namespace Go.Sl
open Go.Proofs
set_option maxRecDepth 4000
variable{M b ec nc:Nat}{ea la na:Option Addr}{qs:List Int}{nd u v:Int}{es:List Pt}
variable {κ:Ctx}{I:List Item}
attribute [local irreducible] W G V D A j7 Eff
theorem ch7{lc:Nat}{i:Int}(hb:qs.length<=1000000000):eu prog κ 292 [e7 i,(pt b)] (vk 3 la lc qs::e8 b [.slice la qs.length lc] 22::I) (λr J=>∃(a:Option Addr) (c:Nat),r = .tuple #[]/\J=vk 3 a c (qs++[i])::e8 b [.slice a (qs++[i]).length c] 22::I):=by
 refine Ce2 Tryz.func292 C C<|Z ?_
 refine Ge1 (B0 (α:=Int) (cs:=[_]) (xs:=[i]) Ab ef C C dc dc C C C C) λab=>?_
 refine Ge2 (Bp (α:=Int) (e:=3) (xs:=qs) (ys:=([i]:List Int)) Ab ef C C C mm A5 lcn dc C<|λ_ _=>am) λaa M=>?_
 refine Ge0 (Br (cs:=[_]) (vs:=[_]) (cs':=[_]) W4) ?_
 exact Bs<|V.end0 C (vk 3 aa M (qs++[i])::e8 b [.slice aa (qs++[i]).length M] 22::I) Az ⟨aa,M,rfl,rfl⟩
theorem fe3(hb:qs.length<=1000000000):eu prog κ 293 [(pt b)] (vk 3 la M qs::e8 b [.slice la qs.length M] 22::I) (λr J=>(qs=[]/\r = .tuple #[e7 0,.bool false]/\J=vk 3 la M qs::e8 b [.slice la qs.length M] 22::I)\/(0<qs.length/\∃(a:Option Addr) (c:Nat),r = .tuple #[e7 (e_ qs 0),.bool true]/\J=vk 3 a c (qs.drop 1)::e8 b [.slice a (qs.drop 1).length c] 22::I)):=by
 refine Ce1 Tryz.func293 C C<|Z ?_
 refine Al C (λc6=>Z ?_)<|λc6=>Z ?_
 ·exact C3 C C C (vk 3 la M qs::e8 b [.slice la qs.length M] 22::I) Az<|.inl ⟨Kx.1 om,rfl,rfl⟩
 refine Gr (Dn (α:=Int) (xs:=qs) (l:=1) Ab ef C C om A5 om)<|Ge0 (Br (cs:=[_]) (vs:=[_]) (cs':=[_]) W4)<|Z ?_
 exact C3 C C C (vc 3 (.slice (N9 la M 1<|Enc.sz Int) (List.drop 1 qs).length (M - 1)) (qs.drop 1)::e8 b [.slice (N9 la M 1<|Enc.sz Int) (List.drop 1 qs).length (M - 1)] 22::I) (A7 Az<|Fit.fz1 (α:=Int) C om)<|.inr ⟨by omega,(N9 la M 1<|Enc.sz Int),(M - 1),rfl,rfl⟩
theorem fe2  :
    eu prog κ 290 [] I (λr J=>∃b:Nat,r = .tuple #[.func (.func 292) #[] #[(pt b)],.func (.func 293) #[] #[(pt b)]]/\J=vk 3 none 0 ([]:List Int)::e8 b [.slice none ([]:List Int).length 0] 22::I):=by
 refine Ce0 Tryz.func290 C C<|Z ?_
 refine Ge1 (Aj W4 C) λb1=>Ar<|Am<|Gr (Dv C C)<|Ga C<|Ar<|Am<|Gr (Dv C C)<|Z ?_
 exact C3 C C C (vk 3 none 0 ([]:List Int)::e8 b1 [.slice none ([]:List Int).length 0] 22::I) (A7 Az<|B6 (α:=Int) _ _) ⟨b1,rfl,rfl⟩
variable {κ:Ctx}{I:List Item}
theorem gb0(hl:Sl κ I (.slice ea es.length ec) es)(hm:Sl κ I (.slice na (j5 nd es).length nc) (j5 nd es))(hG:s8 nd es)(hT:F4 κ I 0 p5):eu prog κ 285 [.agg #[e7 nd,.slice ea es.length ec,.slice na (j5 nd es).length nc]] I (λr J=>r = .bool true/\I=J):=by
 have M:=s4.2 hG
 have ae:=q9 hG
 refine Ce1 Tryz.func285 C C ?_
 refine Am<|Ge1 (Au (cs:=[_,_,_]) C C C) λb1=>Z ?_
 refine G.e (Ac c_ C C<|bg5 (nd:=nd) (A4 hl) om<|A6 hT Ah) ?_
 rintro _ _ ⟨_,_,⟨ab,ad,rfl,rfl⟩,rfl,rfl⟩
 refine Z ?_
 refine A1 (d:=13) C (λaa=>Z ?_)<|λaa=>Z ?_
 ·refine Dj (Cf C C C) (Ac c_ C C<|cr1 (xs:=j5 nd es) (ys:=j5 nd es) A5<|A4 hm) ?_
  rintro _ _ ⟨_,_,⟨rfl,rfl⟩,rfl,rfl⟩
  refine Z ?_
  exact Ak C C I Ah ⟨by first|rfl|(simp;done)|exact absurd M asm,rfl⟩
 exact Ak C C I Ah ⟨by first|rfl|(simp;done)|exact absurd M asm,rfl⟩
theorem cc0(hl:Sl κ I (.slice ea es.length ec) es)(hm:Sl κ I (.slice na (j5 nd es).length nc) (j5 nd es))(hG:s8 nd es)(M:F5 nd u v)(hT:F4 κ I 0 p5):eu prog κ 286 [.agg #[e7 nd,.slice ea es.length ec,.slice na (j5 nd es).length nc],e7 u,e7 v] I (λr J=>r=e7 0/\I=J):=by
 refine Ce3 Tryz.func286 C C ?_
 refine Am<|Ge1 (Au (cs:=[_,_,_]) C C C) λb1=>Z ?_
 refine Gc0 (Ac c_ C C<|gb0 (nd:=nd) (A4 hl) (A4 hm) hG<|A6 hT Ah)<|Z ?_
 refine Gc0 (Ac c_ C C<|ci6 nd u v)<|Z ?_
 refine Al C (λc11=>Z ?_)<|λc11=>Z ?_
 ·exact Ak C C I Ah ⟨by first|rfl|exact absurd M asm,rfl⟩
 exact Ak C C I Ah ⟨by first|rfl|exact absurd M asm,rfl⟩
theorem fe7(hl:Sl κ I (.slice ea es.length ec) es)(hG:s8 nd es)(hT:F4 κ I 0 p5):eu prog κ 42 [.agg #[e7 nd,.slice ea es.length ec]] I (λr J=>∃(ga:Option Addr) (gc:Nat) (a:Option Addr) (c:Nat),r = .tuple #[.agg #[e7 nd,.slice ga es.length gc,.slice a (j5 nd es).length c],e7 0]/\J=vk 3 a c (j5 nd es)::vk 105 ga gc es::I):=by
 have ae:=s4.2 hG
 have ah:=q9 hG
 refine Ce1 Tryz.func42 C C ?_
 refine Am<|Ge1 (Au (cs:=[_,_]) C C C) λb1=>Ge1 (Aj L5 C) λb2=>Z ?_
 refine G.e (Ac c_ C C<|bg5 (nd:=nd) (A4 hl) om<|A6 hT Ah) ?_
 rintro _ _ ⟨_,_,⟨ad,aa,rfl,rfl⟩,rfl,rfl⟩
 refine Z ?_
 refine Al C (λc12=>Z ?_)<|λc12=>?_
 ·refine Ge0 (C9 L5) (Z ?_)
  exact Co C L5 C C mm C I Ah<|by exfalso;first|exact absurd ae asm|omega
 refine Bc<|Ao<|Ay<|A9 mixed<|Ed 8<|Z ?_
 refine Ds1 4<|Sc2 C (Ac c_ C C<|an3 (xs:=es) (A4 hl) om) λab M=>Z ?_
 refine Cg kr ?_
 refine Ae 8 C (C9 L5) ?_
 rintro _ _ ⟨rfl,rfl⟩
 refine Dg (i:=9) kr C (Ap C) C C (Be C) ?_
 refine Ch kr<|Z ?_
 exact Co C L5 C C mm C (vk 3 ad aa (j5 nd es)::vk 105 ab M es::I) Az ⟨ab,M,ad,aa,rfl,rfl⟩
theorem dy5{y:Int}(h:at5 nd es u v y):y<(es.length:Int):=by
 rcases h with ⟨_,j,rfl,M,_⟩|⟨rfl,_⟩<;>omega
theorem P2{κ:Ctx}{I:List Item}{nd':Int}{ga ma:Option Addr}{gc mc:Nat}{es':List Pt}{num num':List Int}(hl:Sl κ I (.slice ea es.length M) es)(hm:Sl κ I (.slice na num.length nc) num)(ai:Sl κ I (.slice ga es'.length gc) es')(ao:Sl κ I (.slice ma num'.length mc) num')(hb:es.length<=1000000)(ap:es'.length<=1000000)(h1:num.length=es.length)(h2:num'.length=es'.length):eu prog κ 289 [.agg #[e7 nd,.slice ea es.length M,.slice na num.length nc],.agg #[e7 (nd'),.slice ga es'.length gc,.slice ma num'.length mc]] I (λr J=>∃w:Value,r=w/\J=I):=by
 refine Ce2 Tryz.func289 C C ?_
 refine Am<|Ge1 (Au (cs:=[_,_,_]) C C C) λb1=>Ge1 (Au (cs:=[_,_,_]) C C C) λb2=>Z ?_
 refine B9 (σ:=Nat×(Option Addr)×Nat×(List Pt)) (λs=>([(2,pt b1),(3,pt b2),(5,.slice s.2.1 s.2.2.2.length s.2.2.1),(11,.slice ea es.length M),(12,e7 ((es.length:Nat):Int)),(13,e7 ((s.1:Nat):Int))]:Env)) (λs=>vk 105 s.2.1 s.2.2.1 s.2.2.2::e8 b2 [e7 (nd'),.slice ga es'.length gc,.slice ma num'.length mc] 41::e8 b1 [e7 nd,.slice ea es.length M,.slice na num.length nc] 41::I) (λs=>(s.1<=es.length)/\(s.2.2.2.length<=s.1)) (λs=>es.length - s.1) (0,none,0,[]) ⟨om,(by simp)⟩ (cx2<|Aa (Db C<|by first|rfl|simp)<|cx2<|Aa Cn Bb) (A7 (show Fit κ _ _ from Az)<|B6 (α:=Pt) _ _) ?_
 rintro ⟨k,oa,oc,o⟩ hp
 dsimp only at hp ⊢
 obtain ⟨hk,an⟩:=hp
 refine Z ?_
 refine Al C (λah=>Z ?_)<|λah=>Z ?_
 ·refine Ge1 (Aj s9 C) λb3=>Ga C (Ge0 (Cr s9)<|Z ?_)
  refine G.e (Ac c_ C C<|at6 (nd:=nd') (A4 ai) ((e_ es k).u) ((e_ es k).v) om) ?_
  rintro _ _ ⟨_,_,⟨y4,rfl,aa,rfl⟩,rfl,rfl⟩
  refine Z ?_
  have ak:=dy5 aa
  refine Z ?_
  refine A9 mixed<|Ed 15<|Z ?_
  refine Dk (d:=27) C (λae=>Z ?_)<|λae=>?_
  ·refine Al C (λad=>Z ?_) (λad=>Z ?_)
   ·refine Ge1 (B0 (α:=Pt) (cs:=[_,_]) (xs:=[⟨(e_ es k).u,(e_ es k).v⟩]) Ax s9 C C dc dc C C C C) λaq=>?_
    refine Ge2 (Bp (α:=Pt) (e:=105) (xs:=o) (ys:=([⟨(e_ es k).u,(e_ es k).v⟩]:List Pt)) Ax s9 C C C mm A5 lcn dc C<|λ_ _=>am) λab aj=>Z ?_
    exact Bt ((k+1),(ab),(aj),(o++([⟨(e_ es k).u,(e_ es k).v⟩]:List Pt)))<|by dsimp only;exact ⟨om,olp⟩
   exact Bt ((k+1),(oa),(oc),(o))<|by dsimp only;exact ⟨om,olp⟩
  refine Dpo 3 C<|Z ?_
  exact Bt ((k+1),(oa),(oc),(o))<|by dsimp only;exact ⟨om,olp⟩
 exact Ak C C I Ah ⟨_,rfl,rfl⟩
end Go.Sl
namespace Go.Sl
open Go.Proofs
set_option maxRecDepth 4000
variable{b:List Int}{ec gc j k nc:Nat}{κ:Ctx}{I:List Item}{ba ea ga na:Option Addr}{y:Int}
section
variable {nd:Int}{es:List Pt}{bs ms:List Int}
theorem bv6(nd:Int)(es:List Pt):(G0 nd es).length=es.length:=Gc ..
theorem TrB.start(hB:TrB nd es bs)(h1:∀i:Int,0<=i->i<es.length->i∈ms)(h2:∀i∈ms,0<=i/\i<es.length):am7 (G0 nd es) (j5 nd es) bs ms:=by
 have hl:=bv6 nd es
 exact ⟨by rw [hl];exact hB.len,λi hi=>by rw [hl];exact h2 i hi,λi M i1=>hB.low i M om,λi M i1=> .inl<|h1 i M om⟩
theorem bv3(M:s8 nd es):bu5 (λi:Int=>0<=i/\i<(G0 nd es).length) (da3 (G0 nd es)) λi=>(e_ (j5 nd es) i).toNat:=by
 have h1:=bv5 (ds2 M) (db3 (ds2 M)<|au8 M)
 rw [bv4 M];exact h1
theorem df6:∀{l:List Int},(∀x∈l,0<=x)->0<=l.sum
 |[],_=>by simp
 |x::l,h=>by
  have h1:=df6 (l:=l) λy M=>h y (C_ _ M)
  have h2:=h x A_
  rw [Je];omega
theorem fi5{m:Int}:∀{l:List Int},(∀x∈l,x<=m)->l.sum<=m*(l.length:Int)
 |[],_=>by simp
 |x::l,h=>by
  have h1:=fi5 (l:=l) λy M=>h y (C_ _ M)
  have h2:=h x A_
  rw [Je,E_]
  have h3:m*((l.length+1:Nat):Int)=m*(l.length:Int)+m:=by rw [Ml,Ls];simp
  omega
theorem dd0{tri:List (List Pt)}{t q:List Int}(h:am7 tri t b q):0<=b.sum:=df6 λx M=>by
 obtain ⟨i,hi,rfl⟩:=av8 M
 have h1:=h.len
 have h2:=h.low (i:Int) om om
 omega
theorem cv8(l:List Pt):(bi8 l).length=2*l.length:=by
 induction l with
 |nil=>rfl
 |cons p l ih=>unfold bi8 at ih ⊢; rw [List.flatMap_cons,By,ih];simp;omega
theorem cg6(l:List Pt)(h:k<l.length):bi8 (l.take (k+1))=bi8 (l.take k)++[(e_ l k).u,(e_ l k).v]:=by
 unfold bi8;rw [Ca l k h,List.flatMap_append];simp
theorem fo3(h:0<ms.length):ms=e_ ms 0::ms.drop 1:=by
 cases ms with
 |nil=>cases h
 |cons a l=>rfl
end
theorem fq5{nd:Int}{bc:Nat}{es:List Pt}{bs:List Int}(hl:Sl κ I (.slice ea es.length ec) es)(hG:s8 nd es)(hB:TrB nd es bs)(ay:∀x∈bs,0<=x/\x<=1000)(hT:F4 κ I 0 p5):eu prog κ 288 [.agg #[e7 nd,.slice ea es.length ec],.slice ba bs.length bc] (vk 3 ba bc bs::I) (λr J=>r = .slice ba bs.length bc/\J=vc 3 (.slice ba bs.length bc) (j5 nd es)::I):=by
 have bw:=hG.rng
 have cc:=q9 hG
 have cb:=hB.len
 have br:=df6 (λx hx=>(ay x hx).1)
 have bu:=fi5 (λx hx=>(ay x hx).2)
 have b6:=bv6 nd es
 refine Ce2 Tryz.func288 C C ?_
 refine Am<|Ge1 (Au (cs:=[_,_]) C C C) λb1=>Ga C<|Ar<|Am<|Gl2 J9 ?_
 refine G.e (Ac c_ C C<|ay6 (nd:=nd) (A4 hl) hG om<|A6 hT Ah) ?_
 rintro _ _ ⟨_,_,⟨ah,ai,M,rfl,av,rfl⟩,rfl,rfl⟩
 have ca:M.length=(G0 nd es).length:=by rw [←av,Gc]
 refine Ds (J:=vk 198 ah ai M::e8 b1 [e7 nd,.slice ea es.length ec] 38::vk 3 ba bc bs::(rgI M++I)) (Cj<|List.Perm.cons _<|C0 (A:=rgI M) (L:=[e8 b1 [e7 nd,.slice ea es.length ec] 38,vk 3 ba bc bs]) (T:=I)) ?_
 refine Ga C<|Ar<|Am<|G.e (Ac c_ C C fe2) ?_
 rintro _ _ ⟨_,_,⟨ae,rfl,rfl⟩,rfl,rfl⟩
 refine Gm C<|Gr (Bk C C)<|Gr (Bk C C)<|Ga C<|Ga C<|Ar<|Ay<|Am<|Gm C<|Gr (Bl Ab C)<|Gm C<|Ar<|A0 (S6 25 24 7 6 5 1)<|A8<|B9 (σ:=Nat×(Option Addr)×Nat×(List Int)) (λs=>([(1,.slice ba bs.length bc),(5,.slice ah M.length ai),(6,.func (.func 292) #[] #[(pt ae)]),(7,.func (.func 293) #[] #[(pt ae)]),(24,e7 ((bs.length:Nat):Int)),(25,e7 ((s.1:Nat):Int))]:Env)) (λs=>vk 3 s.2.1 s.2.2.1 s.2.2.2::e8 ae [.slice s.2.1 s.2.2.2.length s.2.2.1] 22::vk 198 ah ai M::e8 b1 [e7 nd,.slice ea es.length ec] 38::vk 3 ba bc bs::(rgI M++I)) (λs=>(s.1<=bs.length)/\(s.2.2.2.length=s.1)/\(∀i:Int,i∈s.2.2.2↔0<=i/\i<(s.1:Int))) (λs=>bs.length - s.1) (0,none,0,([]:List Int)) ⟨om,rfl,(λi=>⟨(λh=>by cases h),(λh=>by omega)⟩)⟩ (cx4<|Aa C<|Aa Cn Bb) Ai ?_
 rintro ⟨k,qa,qc,q⟩ hp
 dsimp only at hp ⊢
 obtain ⟨hk,b5,hq⟩:=hp
 refine Am<|Gr (Bj C C)<|Ar<|Ay<|Al C (λbk=>?_)<|λbk=>?_
 ·refine Bc (Ao<|Ay<|A8<|Am<|Gm C<|Ga C<|Ar<|Ba<|Gm C<|Gm C<|Gc2 (Cx c_ C C C<|Cl (J:=vk 3 qa qc q::e8 ae [.slice qa q.length qc] 22::vk 198 ah ai M::e8 b1 [e7 nd,.slice ea es.length ec] 38::vk 3 ba bc bs::(rgI M++I)) Az<|ch7 (b:=ae) (qs:=q) (i:=(k:Int)) olp) λa6 bh=>?_)
  exact Bs<|Av<|Ao<|Ba<|Gr (Rad C C)<|Gm C<|Bs<|Bt ((k+1),(a6),(bh),(q++[(k:Int)]))<|by dsimp only;exact ⟨om,lap,(λi=>by rw [Gu,Ge,hq];omega)⟩
 refine Ck<|Aw<|Aw<|Bi<|Ao<|A8<|B9 (σ:=(List Int)×(Option Addr)×Nat×(List Int)) (λs=>([(1,.slice ba bs.length bc),(5,.slice ah M.length ai),(6,.func (.func 292) #[] #[(pt ae)]),(7,.func (.func 293) #[] #[(pt ae)])]:Env)) (λs=>vk 3 s.2.1 s.2.2.1 s.2.2.2::e8 ae [.slice s.2.1 s.2.2.2.length s.2.2.1] 22::vk 198 ah ai M::e8 b1 [e7 nd,.slice ea es.length ec] 38::vc 3 (.slice ba bs.length bc) (s.1)::(rgI M++I)) (λs=>(am7 (G0 nd es) (j5 nd es) s.1 s.2.2.2)/\((s.2.2.2.length:Int)+200*s.1.sum<=(bs.length:Int)+200*bs.sum)) (λs=>s.2.2.2.length+200*s.1.sum.toNat) (bs,qa,qc,q) (show (am7 (G0 nd es) (j5 nd es) (bs:List Int) (q:List Int))/\(((q:List Int).length:Int)+200*(bs:List Int).sum<=(bs.length:Int)+200*bs.sum) from ⟨(hB.start (λi h0 h1=>(hq i).2 ⟨h0,by omega⟩) (λi hi=>by have:=(hq i).1 hi;omega)),om⟩) (cx2<|Aa C<|Aa C Bb) Ai ?_
 rintro ⟨aa,ma,mc,ms⟩ hp
 dsimp only at hp ⊢
 obtain ⟨hS,b4⟩:=hp
 have bt:=hS.len
 have b9:=dd0 hS
 have b2:=hS.low
 refine A8<|Am<|Gm C<|G.e (Cx c_ C C C<|Cl (J:=vk 3 ma mc ms::e8 ae [.slice ma ms.length mc] 22::vk 198 ah ai M::e8 b1 [e7 nd,.slice ea es.length ec] 38::vc 3 (.slice ba bs.length bc) (aa)::(rgI M++I)) Az<|fe3 (b:=ae) (qs:=ms) olp) ?_
 rintro _ _ ⟨_,_,(⟨bn,rfl,rfl⟩|⟨bi,aj,ak,rfl,rfl⟩),rfl,rfl⟩
 ·skip
  refine Gm C<|Gr (Bk C C)<|Gr (Bk C C)<|Ga C<|Ga C<|Ar<|Ay<|Am<|Gm C<|Gr (Fa C)<|Ar<|W.yes C<|Am<|Gm C<|Ga C<|Ar<|A0 (S1 4)<|B2<|Cw<|V.bg1<|Cw<|V.bg1 ?_
  have bf:ms=[]:=by assumption
  rw [bf] at hS
  have bo:=hS.done (ds2 hG) (bv3 hG) (by rw [G3 hG];omega)
  exact Ak C C (vc 3 (.slice ba bs.length bc) (j5 nd es)::I) (by rw [←bo];exact Az) ⟨rfl,rfl⟩
 skip
 refine Gm C<|Gr (Bk C C)<|Gr (Bk C C)<|Ga C<|Ga C<|Ar<|Ay<|Am<|Gm C<|Gr (Fa C)<|Ar<|W.no C<|Bc<|Ao<|Am<|Ga C ?_
 have ap:=hS.rng _ (Bn (xs:=ms) (i:=0) om om)
 have aq:(e_ M<|e_ ms 0).xs=e_ (G0 nd es) (e_ ms 0):=az5 av ap.1 om
 have be:=(au8 hG).len _ (Bn (xs:=(G0 nd es)) ap.1 om)
 rw [←aq] at be
 have a0:am7 (G0 nd es) (j5 nd es) aa ((e_ ms 0)::ms.drop 1):=by rw [←fo3 om];exact hS
 have a8:=fun (p:Pt) (hp:p∈(e_ M<|e_ ms 0).xs)=>((ds2 hG).rng _ ap.1 ap.2 p (aq▸hp)).1
 refine Ar<|A0 (S6 11 9 1 5 6 7)<|Ay<|Am<|Gm C<|Gm C<|Gr (A2 (α:=(F9 Pt)) (xs:=M) D6 bi3 C C A5 (by first|omega|(have h8:=ab om;omega))<|by first|omega|(have h8:=ab om;omega))<|Gr (Cc (α:=(F9 Pt)) (xs:=M) (u:= .slice (e_ M<|e_ ms 0).a (e_ M<|e_ ms 0).xs.length (e_ M<|e_ ms 0).c) bi3 C A5 (by first|omega|(have h8:=ab om;omega)) (by first|omega|(have h8:=ab om;omega)) C)<|Gr (Bl Bv C)<|Gm C<|Ar<|A8<|B9 (σ:=Nat×(Option Addr)×Nat×(List Int)) (λs=>([(1,.slice ba bs.length bc),(5,.slice ah M.length ai),(6,.func (.func 292) #[] #[(pt ae)]),(7,.func (.func 293) #[] #[(pt ae)]),(9,e7<|e_ ms 0),(11,.slice s.2.1 s.2.2.2.length s.2.2.1),(43,.slice (e_ M<|e_ ms 0).a (e_ M<|e_ ms 0).xs.length (e_ M<|e_ ms 0).c),(44,e7<|(((e_ M<|e_ ms 0).xs.length:Nat):Int)),(45,e7 ((s.1:Nat):Int))]:Env)) (λs=>vk 3 s.2.1 s.2.2.1 s.2.2.2::vk 3 aj ak (List.drop 1 ms)::e8 ae [.slice aj (List.drop 1 ms).length ak] 22::vk 198 ah ai M::e8 b1 [e7 nd,.slice ea es.length ec] 38::vc 3 (.slice ba bs.length bc) (aa)::(rgI M++I)) (λs=>(s.1<=(e_ M<|e_ ms 0).xs.length)/\(s.2.2.2=((e_ M<|e_ ms 0).xs.take s.1).map λp=>min (e_ aa p.u)<|e_ aa p.v)) (λs=>(e_ M<|e_ ms 0).xs.length - s.1) (0,none,0,([]:List Int)) ⟨om,rfl⟩ (cx4<|Aa C<|Aa (Db C<|by first|rfl|simp)<|cx2<|Aa Cn Bb) (A7 (show Fit κ _ _ from Az)<|B6 (α:=Int) _ _) ?_
 rintro ⟨j,oa,oc,o⟩ hp
 dsimp only at hp ⊢
 obtain ⟨hj,ho⟩:=hp
 have b7:o.length=j:=by rw [ho,Gc,Fr];omega
 have ab:=λh:j<(e_ M<|e_ ms 0).xs.length=>a8 _ (Bn (xs:=(e_ M<|e_ ms 0).xs) (i:=(j:Int)) om om)
 refine Am<|Gr (Bj C C)<|Ar<|Ay<|Al C (λbm=>?_)<|λbm=>?_
 ·refine Bc (Ao<|Ay<|A8<|Am<|Gr (A2 (α:=Pt) (xs:=(e_ M<|e_ ms 0).xs) Bv L8 C C (Cy<|by repeat (first|exact an4 (rs:=M) (i:=(e_ ms 0)) om om|apply C_)) (by first|omega|(have h8:=ab om;omega))<|by first|omega|(have h8:=ab om;omega))<|Gr (Da (α:=Pt) (xs:=(e_ M<|e_ ms 0).xs) L8 C (Cy<|by repeat (first|exact an4 (rs:=M) (i:=(e_ ms 0)) om om|apply C_)) (by first|omega|(have h8:=ab om;omega))<|by first|omega|(have h8:=ab om;omega))<|Ge1 (Aj L8 C) λbb=>Ge0 (Cr L8) ?_)
  refine Ar<|A9 mixed<|Bx (e8 bb [e7 ((e_ ((e_ M<|e_ ms 0).xs) (j:Int)).u),e7<|(e_ ((e_ M<|e_ ms 0).xs) (j:Int)).v] 200::vk 3 aj ak (List.drop 1 ms)::e8 ae [.slice aj (List.drop 1 ms).length ak] 22::vk 198 ah ai M::e8 b1 [e7 nd,.slice ea es.length ec] 38::vc 3 (.slice ba bs.length bc) (aa)::(rgI M++I)) 15<|Dr 0 C (Aq C)<|Dr 1 C (Aq C)<|Dr 2 C (B5 B7 ty2 C C om om)<|Dr 3 C (Bf ef) ?_
  refine Dr 4 C (A2 (α:=Int) (xs:=aa) Ab ef C C A5 (by first|omega|(have h8:=ab om;omega))<|by first|omega|(have h8:=ab om;omega))<|Dr 5 C (B8 (xs:=aa) ef C A5 (by first|omega|(have h8:=ab om;omega))<|by first|omega|(have h8:=ab om;omega))<|Dr 6 C (Aq C)<|Dr 7 C (B5 B7 ty2 C C om om)<|Dr 8 C (Bf ef) ?_
  refine Dr 9 C (A2 (α:=Int) (xs:=aa) Ab ef C C A5 (by first|omega|(have h8:=ab om;omega))<|by first|omega|(have h8:=ab om;omega))<|Dr 10 C (B8 (xs:=aa) ef C A5 (by first|omega|(have h8:=ab om;omega))<|by first|omega|(have h8:=ab om;omega))<|Dr 11 C (j7.min C C)<|Ds1 12<|Se1 C (B0 (α:=Int) (cs:=[_]) (xs:=[if (e_ aa<|(e_ ((e_ M<|e_ ms 0).xs) (j:Int)).v)<(e_ aa<|(e_ ((e_ M<|e_ ms 0).xs) (j:Int)).u) then (e_ aa<|(e_ ((e_ M<|e_ ms 0).xs) (j:Int)).v) else (e_ aa<|(e_ ((e_ M<|e_ ms 0).xs) (j:Int)).u)]) Ab ef C C dc dc C C C C) λbv=>?_
  refine Ds1 13<|Se2 C (Bp (α:=Int) (e:=3) (xs:=o) (ys:=([if (e_ aa<|(e_ ((e_ M<|e_ ms 0).xs) (j:Int)).v)<(e_ aa<|(e_ ((e_ M<|e_ ms 0).xs) (j:Int)).u) then (e_ aa<|(e_ ((e_ M<|e_ ms 0).xs) (j:Int)).v) else (e_ aa<|(e_ ((e_ M<|e_ ms 0).xs) (j:Int)).u)]:List Int)) Ab ef C C C mm A5 lcn dc C<|λ_ _=>am) λax a5=>?_
  exact Dr 14 C (Be C)<|Dz<|Av<|Ao<|A0 (S9 11 1 5 6 7 9 43 44 45)<|Ba<|Gr (Rad C C)<|Gm C<|Bs<|Bt ((j+1),(ax),(a5),(o++([if (e_ aa<|(e_ ((e_ M<|e_ ms 0).xs) (j:Int)).v)<(e_ aa<|(e_ ((e_ M<|e_ ms 0).xs) (j:Int)).u) then (e_ aa<|(e_ ((e_ M<|e_ ms 0).xs) (j:Int)).v) else (e_ aa<|(e_ ((e_ M<|e_ ms 0).xs) (j:Int)).u)]:List Int)))<|by dsimp only;exact ⟨om,(by rw [Ca _ j om,Ht,←ho];simp only [Hi,Ks];first|rfl|(rw [fy5]))⟩
 refine Ck<|Aw<|Aw<|Bi<|Ao<|Ay<|A9 mixed<|Ed 8<|Dr 0 C (Aq C)<|Dr 2 C (Aq C)<|Dr 3 C (Aq C)<|Dr 4 C (A2 (α:=Int) (xs:=aa) Ab ef C C A5 (by first|omega|(have h8:=ab om;omega))<|by first|omega|(have h8:=ab om;omega))<|Dr 5 C (B8 (xs:=aa) ef C A5 (by first|omega|(have h8:=ab om;omega))<|by first|omega|(have h8:=ab om;omega))<|Ds1 1<|Se C (Ac c_ C C<|H_ok (xs:=o) A5 om) ?_
 rintro _ _ ⟨_,_,⟨ad,rfl,an,rfl⟩,rfl,rfl⟩
 refine ⟨Ah,?_⟩
 refine Dr 6 C (j7.min C C) ?_
 have a9:(if (e_ aa<|e_ ms 0)<(ad:Int) then (e_ aa<|e_ ms 0) else (ad:Int))=(min (ad:Int)<|e_ aa<|e_ ms 0):=by split<;>omega
 rw [a9]
 have a1:HI (bi7 (G0 nd es) aa<|e_ ms 0) (ad:Int):=by rw [ho,show j=(e_ M<|e_ ms 0).xs.length by omega,Hd,aq] at an;exact an
 refine Dr 7 C (Be C)<|Dz<|Ao<|A0 (S6 14 1 5 6 7 9)<|Am<|Gm C<|Gm C<|Gm C<|Gr (A2 (α:=Int) (xs:=aa) Ab ef C C A5 (by first|omega|(have h8:=ab om;omega))<|by first|omega|(have h8:=ab om;omega))<|Gr (B8 (xs:=aa) ef C A5 (by first|omega|(have h8:=ab om;omega))<|by first|omega|(have h8:=ab om;omega))<|Gr (Bj C C)<|Ar<|Al C (λbg=>?_)<|λbg=>?_
 ·refine Am (Gm C<|Gm C<|Gm C<|Gr (A2 (α:=Int) (xs:=aa) Ab ef C C A5 (by first|omega|(have h8:=ab om;omega))<|by first|omega|(have h8:=ab om;omega))<|Ge0 (Cv (α:=Int) (xs:=aa) (e:=3) (new:=(min (ad:Int)<|e_ aa<|e_ ms 0)) ef C C C (by first|omega|(have h8:=ab om;omega)) (by first|omega|(have h8:=ab om;omega)) am) ?_)
  refine Ar<|A0 (S5 1 5 6 7 9)<|Am<|Gm C<|Gm C<|Gr (A2 (α:=(F9 Pt)) (xs:=M) D6 bi3 C C A5 (by first|omega|(have h8:=ab om;omega))<|by first|omega|(have h8:=ab om;omega))<|Gr (Cc (α:=(F9 Pt)) (xs:=M) (u:= .slice (e_ M<|e_ ms 0).a (e_ M<|e_ ms 0).xs.length (e_ M<|e_ ms 0).c) bi3 C A5 (by first|omega|(have h8:=ab om;omega)) (by first|omega|(have h8:=ab om;omega)) C)<|Gr (Bl Bv C)<|Gm C<|Ar<|A8<|B9 (σ:=Nat×(Option Addr)×Nat×(List Int)) (λs=>([(1,.slice ba bs.length bc),(5,.slice ah M.length ai),(6,.func (.func 292) #[] #[(pt ae)]),(7,.func (.func 293) #[] #[(pt ae)]),(84,.slice (e_ M<|e_ ms 0).a (e_ M<|e_ ms 0).xs.length (e_ M<|e_ ms 0).c),(85,e7<|(((e_ M<|e_ ms 0).xs.length:Nat):Int)),(86,e7 ((s.1:Nat):Int))]:Env)) (λs=>vk 3 s.2.1 s.2.2.1 s.2.2.2::e8 ae [.slice s.2.1 s.2.2.2.length s.2.2.1] 22::vk 3 oa oc o::vk 198 ah ai M::e8 b1 [e7 nd,.slice ea es.length ec] 38::vc 3 (.slice ba bs.length bc) (List.set aa (e_ ms 0).toNat ((min (ad:Int)<|e_ aa<|e_ ms 0)))::(rgI M++I)) (λs=>(s.1<=(e_ M<|e_ ms 0).xs.length)/\(s.2.2.2=ms.drop 1++bi8 ((e_ M<|e_ ms 0).xs.take s.1))) (λs=>(e_ M<|e_ ms 0).xs.length - s.1) (0,aj,ak,List.drop 1 ms) ⟨om,(by unfold bi8;simp)⟩ (cx4<|cx2<|Aa Cn Bb) Az ?_
  rintro ⟨j2,pa,pc,ps⟩ hp
  dsimp only at hp ⊢
  obtain ⟨b3,aw⟩:=hp
  have b8:ps.length=(ms.length - 1)+2*j2:=by rw [aw,By,Fz,cv8,Fr];omega
  refine Am<|Gr (Bj C C)<|Ar<|Ay<|Al C (λbj=>?_)<|λbj=>?_
  ·refine Bc (Ao<|Ay<|A8<|Am<|Gr (A2 (α:=Pt) (xs:=(e_ M<|e_ ms 0).xs) Bv L8 C C (Cy<|by repeat (first|exact an4 (rs:=M) (i:=(e_ ms 0)) om om|apply C_)) (by first|omega|(have h8:=ab om;omega))<|by first|omega|(have h8:=ab om;omega))<|Gr (Da (α:=Pt) (xs:=(e_ M<|e_ ms 0).xs) L8 C (Cy<|by repeat (first|exact an4 (rs:=M) (i:=(e_ ms 0)) om om|apply C_)) (by first|omega|(have h8:=ab om;omega))<|by first|omega|(have h8:=ab om;omega))<|Ge1 (Aj L8 C) λa4=>Ge0 (Cr L8) ?_)
   refine Ar<|Am<|Gm C<|Gr (B5 B7 ty2 C C om om)<|Gl ef ?_
   refine Gc2 (Cx c_ C C C<|Cl (J:=vk 3 pa pc ps::e8 ae [.slice pa ps.length pc] 22::e8 a4 [e7 ((e_ ((e_ M<|e_ ms 0).xs) (j2:Int)).u),e7<|(e_ ((e_ M<|e_ ms 0).xs) (j2:Int)).v] 200::vk 3 oa oc o::vk 198 ah ai M::e8 b1 [e7 nd,.slice ea es.length ec] 38::vc 3 (.slice ba bs.length bc) (List.set aa (e_ ms 0).toNat ((min (ad:Int)<|e_ aa<|e_ ms 0)))::(rgI M++I)) Az<|ch7 (b:=ae) (qs:=ps) (i:=(e_ ((e_ M<|e_ ms 0).xs) (j2:Int)).u) olp) λar au=>?_
   refine Ar<|A0 (S8 16 1 5 6 7 84 85 86)<|Ba<|Gm C<|Gr (B5 B7 ty2 C C om om)<|Gl ef ?_
   refine Gc2 (Cx c_ C C C<|Cl (J:=vk 3 ar au (ps++[(e_ ((e_ M<|e_ ms 0).xs) (j2:Int)).u])::e8 ae [.slice ar (ps++[(e_ ((e_ M<|e_ ms 0).xs) (j2:Int)).u]).length au] 22::e8 a4 [e7 ((e_ ((e_ M<|e_ ms 0).xs) (j2:Int)).u),e7<|(e_ ((e_ M<|e_ ms 0).xs) (j2:Int)).v] 200::vk 3 oa oc o::vk 198 ah ai M::e8 b1 [e7 nd,.slice ea es.length ec] 38::vc 3 (.slice ba bs.length bc) (List.set aa (e_ ms 0).toNat ((min (ad:Int)<|e_ aa<|e_ ms 0)))::(rgI M++I)) Az<|ch7 (b:=ae) (qs:=ps++[(e_ ((e_ M<|e_ ms 0).xs) (j2:Int)).u]) (i:=(e_ ((e_ M<|e_ ms 0).xs) (j2:Int)).v) olp) λa3 az=>?_
   exact Bs<|Av<|Ao<|Ba<|Gr (Rad C C)<|Gm C<|Bs<|Bt ((j2+1),(a3),(az),((ps++[(e_ ((e_ M<|e_ ms 0).xs) (j2:Int)).u])++[(e_ ((e_ M<|e_ ms 0).xs) (j2:Int)).v]))<|by dsimp only;exact ⟨om,(by rw [cg6 _ om,←Fu,←aw];simp)⟩
  refine Ck<|Aw<|Aw<|Bi<|Av ?_
  have bp:min (ad:Int) (e_ aa<|e_ ms 0)=(ad:Int):=by omega
  have ao:am7 (G0 nd es) (j5 nd es) (List.set aa (e_ ms 0).toNat ((min (ad:Int)<|e_ aa<|e_ ms 0))) (ps):=by rw [bp,aw,show j2=(e_ M<|e_ ms 0).xs.length by omega,Hd,aq];exact a0.sink (ds2 hG) (bv3 hG) a1 om
  have bq:=dd0 ao
  have a7:(List.set aa (e_ ms 0).toNat ((min (ad:Int)<|e_ aa<|e_ ms 0))).sum=aa.sum - e_ aa (e_ ms 0)+min (ad:Int) (e_ aa<|e_ ms 0):=by rw [az4 om om]
  exact Bt ((List.set aa (e_ ms 0).toNat ((min (ad:Int)<|e_ aa<|e_ ms 0))),(pa),(pc),(ps))<|by dsimp only;exact ⟨ao,om⟩
 refine Bc<|Av ?_
 have ao:am7 (G0 nd es) (j5 nd es) aa (List.drop 1 ms):=a0.pass a1 om
 have a7:(List.drop 1 ms).length=ms.length - 1:=by rw [Fz]
 exact Bt ((aa),(aj),(ak),(List.drop 1 ms))<|by dsimp only;exact ⟨ao,om⟩
section
variable {nd:Int}{es es':List Pt}{u v:Int}
theorem ap6(M:s8 nd es)(hj:j<es.length):((bo5 nd es (e_ es j):Nat):Int)=e_ (j5 nd es) j:=by
 unfold bo5
 rw [idx_eq M hj]
 have:=ap4 M (i:=(j:Int)) om om
 omega
structure NxE (nd:Int) (es':List Pt) (k:Nat) (x:Int):Prop where
 low:0<=e_ (j5 nd es') k/\e_ (j5 nd es') k<=x
 up:x<=100
theorem ak3(M:s8 nd es)(hj:j<es.length):0<=e_ (j5 nd es) j/\e_ (j5 nd es) j<=64:=by
 have h1:=ak4 M (u:=(j:Int)) om (by rw [G3 M];omega)
 have:=M.rng
 omega
theorem as2(hG:s8 nd es)(M:s8 nd es')(hk:k<es'.length)(h:at5 nd es (e_ es' k).u (e_ es' k).v y):(0<=y/\y<es.length/\e_ es y=e_ es' k)\/(y = -1/\e_ es' k∉es):=by
 have hm:=Bn (xs:=es') (i:=(k:Int)) om om
 have hs:=K8 (e:=e_ es' k) (by have:=M.aa9 _ hm;omega)
 unfold at5 at h
 rw [hs] at h
 rcases h with ⟨_,j,rfl,hj,e⟩|⟨rfl,h1|h1⟩
 ·exact .inl ⟨by omega,by omega,e⟩
 ·exact absurd (s4.2 hG) h1
 exact .inr ⟨rfl,h1⟩
theorem fx5(h:R6 nd es es' u v)(M:k<es'.length)(hf:at5 nd es (e_ es' k).u (e_ es' k).v y)(hy:y<0):NxE nd es' k ((j3 nd es' u v).length:Int):=by
 have hm:=Bn (xs:=es') (i:=(k:Int)) om om
 rcases as2 h.ok h.ok' M hf with h1|⟨_,h1⟩
 ·omega
 have e:=((h.mem _).1 hm).resolve_left h1
 have h2:=h.db1
 have h3:=ap6 h.ok' M
 rw [e] at h3
 have h4:=ap4 h.ok' (i:=(k:Int)) om om
 have h5:=M2 nd es' u v
 exact ⟨by omega,by omega⟩
theorem fx6(h:R6 nd es es' u v)(M:k<es'.length)(hf:at5 nd es (e_ es' k).u (e_ es' k).v y)(hy:¬y<0):NxE nd es' k (e_ (j5 nd es) y+1):=by
 rcases as2 h.ok h.ok' M hf with ⟨h0,h1,e⟩|h1
 ·obtain ⟨j,rfl⟩:=Hp h0
  have hj:j<es.length:=by omega
  have h2:=(h.fu7 (e:=e_ es j)<|Bn om om).2
  have h3:=ap6 h.ok' M
  rw [←e] at h3
  have h4:=ap6 h.ok hj
  have h5:=ap4 h.ok' (i:=(k:Int)) om om
  have h6:=ak3 h.ok hj
  exact ⟨by omega,by omega⟩
 omega
theorem fi2(h:R6 nd es es' u v)(M:k<es.length)(hf:at5 nd es' (e_ es k).u (e_ es k).v y):0<=y/\NxE nd es k (e_ (j5 nd es') y):=by
 have hm:=Bn (xs:=es) (i:=(k:Int)) om om
 rcases as2 h.ok' h.ok M hf with ⟨h0,h1,e⟩|⟨_,h1⟩
 ·obtain ⟨j,rfl⟩:=Hp h0
  have hj:j<es'.length:=by omega
  have h2:=(h.fu7 hm).1
  have h3:=ap6 h.ok M
  have h4:=ap6 h.ok' hj
  rw [e] at h4
  have h5:=ap4 h.ok (i:=(k:Int)) om om
  have h6:=ak3 h.ok' hj
  exact ⟨h0,⟨by omega,by omega⟩⟩
 exact absurd ((h.mem _).2 (.inl hm)) h1
structure NxI (nd:Int) (es':List Pt) (k:Nat) (b:List Int):Prop where
 len:b.length=k
 val:∀i:Nat,i<k->NxE nd es' i (e_ b i)
theorem NxI.zero:NxI nd es' 0 []:=⟨rfl,λi h=>absurd h (Nat.not_lt_zero _)⟩
theorem NxI.next{x:Int}(h:NxI nd es' k b)(M:NxE nd es' k x):NxI nd es' (k+1) (b++[x]):=⟨by rw [By,h.len];rfl,λi hi=>by
 by_cases e:i<k
 ·have e1:e_ (b++[x]) i=e_ b i:=by rw [Cs _ i (by rw [By,h.len];omega),Cs _ i<|by rw [h.len];exact e,List.getElem_append_left]
  rw [e1];exact h.val i e
 have e2:i=b.length:=by rw [h.len];omega
 have e1:e_ (b++[x]) i=x:=by subst e2;rw [Cs _ _ (by simp)];simp
 rw [e1,show i=k by omega];exact M⟩
theorem NxI.all(h:NxI nd es' es'.length b):TrB nd es' b/\∀x∈b,0<=x/\x<=1000:=by
 refine ⟨⟨h.len,λi h0 M=>?_⟩,λx hx=>?_⟩
 ·obtain ⟨j,rfl⟩:=Hp h0
  exact (h.val j om).low
 obtain ⟨j,hj,rfl⟩:=av8 hx
 rw [h.len] at hj
 have M:=h.val j hj
 have h2:=M.low
 have h3:=M.up
 omega
theorem df2(h:R6 nd es es' u v):es'.length=es.length+1:=by
 have M:es'.Perm (j4 u v::es):=(Hr (Fg h.ok'.asc)<|Hz.2 ⟨h.no,Fg h.ok.asc⟩).2 λp=>by rw [h.mem,Fy];exact Or.comm
 rw [M.length_eq];rfl
end
theorem ba8{nd:Int}{M:Nat}{es:List Pt}{bs:List Int}(hl:Sl κ I (.slice ea es.length ec) es)(hG:s8 nd es)(hB:TrB nd es bs)(aa:∀x∈bs,0<=x/\x<=1000)(hT:F4 κ I 0 p5):eu prog κ 288 [.agg #[e7 nd,.slice ea es.length ec],.slice ba bs.length M] (vk 3 ba M bs::I) λr J=>r = .slice ba (j5 nd es).length M/\J=vk 3 ba M (j5 nd es)::I:=by
 have e:bs.length=(j5 nd es).length:=by rw [G3 hG];exact hB.len
 exact (fq5 hl hG hB aa hT).mono λr J h=>⟨h.1.trans<|by rw [e],h.2.trans<|by rw [e]⟩
theorem fe5{nd u v:Int}{es es':List Pt}(hl:Sl κ I (.slice ea es.length ec) es)(hm:Sl κ I (.slice na (j5 nd es).length nc) (j5 nd es))(M:Sl κ I (.slice ga es'.length gc) es')(h:R6 nd es es' u v)(hT:F4 κ I 0 p5):eu prog κ 287 [.agg #[e7 nd,.slice ea es.length ec,.slice na (j5 nd es).length nc],.agg #[e7 nd,.slice ga es'.length gc],e7 u,e7 v] I (λr J=>∃(a:Option Addr) (c:Nat) (w:Value),r = .tuple #[.agg #[e7 nd,.slice ga es'.length gc,.slice a (j5 nd es').length c],w]/\J=vk 3 a c (j5 nd es')::I):=by
 have bb:=q9 h.ok
 have a0:=q9 h.ok'
 have a5:=df2 h
 have ae:=G3 h.ok
 have ab:=G3 h.ok'
 refine Ce4 Tryz.func287 C C ?_
 refine Am<|Ge1 (Au (cs:=[_,_,_]) C C C) λb1=>Ge1 (Au (cs:=[_,_]) C C C) λb2=>Ge1 (Aj L5 C) λb3=>Ga C<|Ar<|Am<|Gf K5 C<|Gl am8 ?_
 refine Gr (Bl Ax C)<|Gf be7 C<|Gf K5 C<|Gl am8 ?_
 refine Gr (Bl Ax C)<|Gr (Ec C C)<|Ga C<|Ar<|A0 (S6 10 8 5 4 2 3)<|Am<|Ga C<|Ar<|Ay<|Am<|Gf K5 C<|Gl am8 ?_
 refine Gr (Bl Ax C)<|Gm C<|Ar<|A8<|B9 (σ:=Nat×(Option Addr)×Nat×(List Int)) (λs=>([(2,e7 u),(3,e7 v),(4,pt b1),(5,pt b2),(8,pt b3),(10,.bool<|decide<|((es.length:Nat):Int)<((es'.length:Nat):Int)),(11,.slice s.2.1 s.2.2.2.length s.2.2.1),(25,.slice ga es'.length gc),(26,e7<|((es'.length:Nat):Int)),(27,e7 ((s.1:Nat):Int))]:Env)) (λs=>vk 3 s.2.1 s.2.2.1 s.2.2.2::e8 b3 [e7 0,.slice none 0 0,.slice none 0 0] 41::e8 b2 [e7 nd,.slice ga es'.length gc] 38::e8 b1 [e7 nd,.slice ea es.length ec,.slice na (j5 nd es).length nc] 41::I) (λs=>(s.1<=es'.length)/\(NxI nd es' s.1 s.2.2.2)) (λs=>es'.length - s.1) (0,none,0,([]:List Int)) ⟨om,NxI.zero⟩ (cx4<|cx2<|Aa (Db C<|by first|rfl|simp)<|cx2<|Aa Cn Bb) (A7 (show Fit κ _ _ from Az)<|B6 (α:=Int) _ _) ?_
 rintro ⟨k,ba,bc,bd⟩ hp
 dsimp only at hp ⊢
 obtain ⟨hk,hb⟩:=hp
 have a6:=hb.len
 refine Am<|Gr (Bj C C)<|Ar<|Ay<|Al C (λav=>?_)<|λav=>?_
 ·refine Bc (Ao<|Ay<|A8<|Am<|Gr (A2 (α:=Pt) (xs:=es') Ax s9 C C (A4 M) om<|by first|omega|(rcases aa with ⟨q1,q2,q3⟩|q1<;>omega))<|Gr (Da (α:=Pt) (xs:=es') s9 C (A4 M) om<|by first|omega|(rcases aa with ⟨q1,q2,q3⟩|q1<;>omega))<|Ge1 (Aj s9 C) λb4=>Ge0 (Cr s9) ?_)
  refine Ar<|A0 (S11 13 2 3 4 5 8 10 11 25 26 27 C C C C C C C C C C C)<|Am<|Gf be7 C<|Gl2 J9 ?_
  refine Gf N8 C<|Gl ef ?_
  refine Gf N7 C<|Gl ef ?_
  refine G.e (Ac c_ C C<|at6 (nd:=nd) (A4 hl) ((e_ es' k).u) ((e_ es' k).v) om) ?_
  rintro _ _ ⟨_,_,⟨y5,rfl,ai,rfl⟩,rfl,rfl⟩
  refine Ga C ?_
  have aa:=as2 h.ok h.ok' om ai
  have ah:=λq:0<=y5/\y5<es.length=>ak3 h.ok (j:=(y5).toNat) om
  have ak:=λq:0<=y5=>show (((y5).toNat:Nat):Int)=y5 from H1 q
  refine Ar<|A0 (S11 14 2 3 4 5 8 10 11 25 26 27 C C C C C C C C C C C)<|A8<|Am<|Gm C<|Gr (Bj C C)<|Ga C<|Ar<|A0 (S12 46 14 2 3 4 5 8 10 11 25 26 27)<|Al C (λan=>?_)<|λan=>?_
  ·refine Ba (Gm C<|Gl2 J9 ?_)
   refine Gm C<|Gm C<|Gc2 (Ac c_ C C<|bn9 (nd:=nd) (A4 M) u v<|A6 hT Ah) λa3 a8=>?_
   have aj:=fx5 h om ai an
   refine Gr (Bl Ab C)<|Ge1 (B0 (α:=Int) (cs:=[_]) (xs:=[(((j3 nd es' u v).length:Nat):Int)]) Ab ef C C dc dc C C C C) λa4=>?_
   refine Ge2 (Bp (α:=Int) (e:=3) (xs:=bd) (ys:=([(((j3 nd es' u v).length:Nat):Int)]:List Int)) Ab ef C C C mm A5 lcn dc C<|λ_ _=>am) λau ap=>?_
   exact Ga C<|Bs<|Av<|Av<|Ao<|A0 (S10 11 2 3 4 5 8 10 25 26 27)<|Ba<|Gr (Ct C C<|by first|(unfold InR;omega)|rcases aa with ⟨q1,q2,q3⟩|q1;(· have q4:=ah ⟨q1,q2⟩;rw [ak q1] at q4;unfold InR;omega);(· omega))<|Gm C<|Bs<|Bt ((k+1),(au),(ap),(bd++([(((j3 nd es' u v).length:Nat):Int)]:List Int)))<|by dsimp only;exact ⟨om,(hb.next aj)⟩
  refine Am<|Gm C<|Ga C<|Ar<|A0 (S12 57 14 2 3 4 5 8 10 11 25 26 27)<|Al C (λar=>?_)<|λar=>?_
  ·refine Ba (Gm C<|Gf cf8 C<|Gl W4 ?_)
   refine Gm C<|Gr (A2 (α:=Int) (xs:=j5 nd es) Ab ef C C (A4 hm) om<|by first|omega|(rcases aa with ⟨q1,q2,q3⟩|q1<;>omega))<|Gr (B8 (xs:=j5 nd es) ef C (A4 hm) om<|by first|omega|(rcases aa with ⟨q1,q2,q3⟩|q1<;>omega)) ?_
   have aj:=fx6 h om ai an
   refine Gr (Ct C C<|by first|(unfold InR;omega)|rcases aa with ⟨q1,q2,q3⟩|q1;(· have q4:=ah ⟨q1,q2⟩;rw [ak q1] at q4;unfold InR;omega);(· omega))<|Ge1 (B0 (α:=Int) (cs:=[_]) (xs:=[(e_ (j5 nd es) y5)+1]) Ab ef C C dc dc C C C C) λaz=>?_
   refine Ge2 (Bp (α:=Int) (e:=3) (xs:=bd) (ys:=([(e_ (j5 nd es) y5)+1]:List Int)) Ab ef C C C mm A5 lcn dc C<|λ_ _=>am) λao aq=>?_
   exact Ga C<|Bs<|Av<|Av<|Ao<|A0 (S10 11 2 3 4 5 8 10 25 26 27)<|Ba<|Gr (Ct C C<|by first|(unfold InR;omega)|rcases aa with ⟨q1,q2,q3⟩|q1;(· have q4:=ah ⟨q1,q2⟩;rw [ak q1] at q4;unfold InR;omega);(· omega))<|Gm C<|Bs<|Bt ((k+1),(ao),(aq),(bd++([(e_ (j5 nd es) y5)+1]:List Int)))<|by dsimp only;exact ⟨om,(hb.next aj)⟩
  omega
 refine Ck<|Aw<|Aw<|Bi<|Ao<|Ay<|A9 mixed<|Bx (e8 b3 [e7 0,.slice none 0 0,.slice none 0 0] 41::e8 b2 [e7 nd,.slice ga es'.length gc] 38::e8 b1 [e7 nd,.slice ea es.length ec,.slice na (j5 nd es).length nc] 41::I) 6<|Dr 0 C (Bm (vs:=[_,_]) J9) ?_
 have aw:k=es'.length:=by omega
 rw [aw] at hb
 have ad:=hb.all
 refine Dr 1 C (Bm (vs:=[_,_]) J9) ?_
 refine Dr 2 C (Aq C)<|C8 (rs:=[3,5]) kr C C<|Ei ?_<|Do ?_
 ·refine Se C (Ac c_ C C<|Cl (J:=vk 3 ba bc bd::e8 b3 [e7 0,.slice none 0 0,.slice none 0 0] 41::e8 b2 [e7 nd,.slice ga es'.length gc] 38::e8 b1 [e7 nd,.slice ea es.length ec,.slice na (j5 nd es).length nc] 41::I) Az<|ba8 (nd:=nd) (es:=es') (bs:=bd) (A4 M) h.ok' ad.1 ad.2<|A6 hT Ah) ?_
  rintro _ _ ⟨_,_,⟨rfl,rfl⟩,rfl,rfl⟩
  refine ⟨Az,?_⟩
  refine Dr 4 C (Cm (cells:=[_,_,_]) L5 Ey fw5 C C)<|Ds1 5<|Se1 C (Aj L5 C) λax=>?_
  refine Cg kr ?_
  refine Ae 6 C (C9 L5) ?_
  rintro _ _ ⟨rfl,rfl⟩
  refine Ch kr ?_
  refine Ao<|A0 (S3 15 4 8)<|Ay<|A9 mixed<|Bx (e8 ax [e7 nd,.slice ga es'.length gc,.slice ba (j5 nd es').length bc] 41::vk 3 ba bc (j5 nd es')::e8 b3 [e7 0,.slice none 0 0,.slice none 0 0] 41::e8 b2 [e7 nd,.slice ga es'.length gc] 38::e8 b1 [e7 nd,.slice ea es.length ec,.slice na (j5 nd es).length nc] 41::I) 4<|Dr 0 C (Bm (vs:=[_,_,_]) L5) ?_
  refine C8 (rs:=[1,2]) kr C C<|Ei ?_<|Do ?_
  ·refine Sr C (Bm (vs:=[_,_,_]) L5) Ai ?_
   refine Ds1 2<|Sr C (Bm (vs:=[_,_,_]) L5) Ai ?_
   refine Ds1 3<|Se C (Ac c_ C C<|P2 (nd:=nd) (nd':=nd) (es:=es) (es':=es') (num:=j5 nd es) (num':=j5 nd es') (A4 hl) (A4 hm) (A4 M) A5 om om ae ab) ?_
   rintro _ _ ⟨_,_,⟨a9,rfl,rfl⟩,rfl,rfl⟩
   refine ⟨Ai,?_⟩
   refine Cg kr ?_
   refine Ae 4 C (C9 L5) ?_
   rintro _ _ ⟨rfl,rfl⟩
   refine Dg (i:=5) kr C (Ap C) C C (Be C) ?_
   refine Ch kr ?_
   exact Ao<|B2<|Co C L5 C C mm C (vk 3 ba bc (j5 nd es')::I) Az ⟨ba,bc,_,rfl,rfl⟩
  refine Sr C (Bm (vs:=[_,_,_]) L5) Ai ?_
  refine Ds1 1<|Sr C (Bm (vs:=[_,_,_]) L5) Ai ?_
  refine Ds1 3<|Se C (Ac c_ C C<|P2 (nd:=nd) (nd':=nd) (es:=es) (es':=es') (num:=j5 nd es) (num':=j5 nd es') (A4 hl) (A4 hm) (A4 M) A5 om om ae ab) ?_
  rintro _ _ ⟨_,_,⟨be,rfl,rfl⟩,rfl,rfl⟩
  refine ⟨Ai,?_⟩
  refine Cg kr ?_
  refine Ae 4 C (C9 L5) ?_
  rintro _ _ ⟨rfl,rfl⟩
  refine Dg (i:=5) kr C (Ap C) C C (Be C) ?_
  refine Ch kr ?_
  exact Ao<|B2<|Co C L5 C C mm C (vk 3 ba bc (j5 nd es')::I) Az ⟨ba,bc,_,rfl,rfl⟩
 refine Se1 C (Aj L5 C) λay=>?_
 refine Ds1 3<|Se C (Ac c_ C C<|Cl (J:=vk 3 ba bc bd::e8 ay [e7 0,.slice none 0 0,.slice none 0 0] 41::e8 b3 [e7 0,.slice none 0 0,.slice none 0 0] 41::e8 b2 [e7 nd,.slice ga es'.length gc] 38::e8 b1 [e7 nd,.slice ea es.length ec,.slice na (j5 nd es).length nc] 41::I) Az<|ba8 (nd:=nd) (es:=es') (bs:=bd) (A4 M) h.ok' ad.1 ad.2<|A6 hT Ah) ?_
 rintro _ _ ⟨_,_,⟨rfl,rfl⟩,rfl,rfl⟩
 refine ⟨Az,?_⟩
 refine Dr 4 C (Cm (cells:=[_,_,_]) L5 Ey fw5 C C)<|Cg kr ?_
 refine Ae 6 C (C9 L5) ?_
 rintro _ _ ⟨rfl,rfl⟩
 refine Ch kr ?_
 refine Ao<|A0 (S3 15 4 8)<|Ay<|A9 mixed<|Ed 4<|Dr 0 C (Bm (vs:=[_,_,_]) L5) ?_
 refine C8 (rs:=[1,2]) kr C C<|Ei ?_<|Do ?_
 ·refine Sr C (Bm (vs:=[_,_,_]) L5) Ai ?_
  refine Ds1 2<|Sr C (Bm (vs:=[_,_,_]) L5) Ai ?_
  refine Ds1 3<|Se C (Ac c_ C C<|P2 (nd:=nd) (nd':=nd) (es:=es) (es':=es') (num:=j5 nd es) (num':=j5 nd es') (A4 hl) (A4 hm) (A4 M) A5 om om ae ab) ?_
  rintro _ _ ⟨_,_,⟨a1,rfl,rfl⟩,rfl,rfl⟩
  refine ⟨Ai,?_⟩
  refine Cg kr ?_
  refine Ae 4 C (C9 L5) ?_
  rintro _ _ ⟨rfl,rfl⟩
  refine Dg (i:=5) kr C (Ap C) C C (Be C) ?_
  refine Ch kr ?_
  exact Ao<|B2<|Co C L5 C C mm C (vk 3 ba bc (j5 nd es')::I) Az ⟨ba,bc,_,rfl,rfl⟩
 refine Sr C (Bm (vs:=[_,_,_]) L5) Ai ?_
 refine Ds1 1<|Sr C (Bm (vs:=[_,_,_]) L5) Ai ?_
 refine Ds1 3<|Se C (Ac c_ C C<|P2 (nd:=nd) (nd':=nd) (es:=es) (es':=es') (num:=j5 nd es) (num':=j5 nd es') (A4 hl) (A4 hm) (A4 M) A5 om om ae ab) ?_
 rintro _ _ ⟨_,_,⟨a7,rfl,rfl⟩,rfl,rfl⟩
 refine ⟨Ai,?_⟩
 refine Cg kr ?_
 refine Ae 4 C (C9 L5) ?_
 rintro _ _ ⟨rfl,rfl⟩
 refine Dg (i:=5) kr C (Ap C) C C (Be C) ?_
 refine Ch kr ?_
 exact Ao<|B2<|Co C L5 C C mm C (vk 3 ba bc (j5 nd es')::I) Az ⟨ba,bc,_,rfl,rfl⟩
theorem fe6{nd u v:Int}{es es':List Pt}(hl:Sl κ I (.slice ea es.length ec) es)(hm:Sl κ I (.slice na (j5 nd es).length nc) (j5 nd es))(M:Sl κ I (.slice ga es'.length gc) es')(h:R6 nd es' es u v)(hT:F4 κ I 0 p5):eu prog κ 287 [.agg #[e7 nd,.slice ea es.length ec,.slice na (j5 nd es).length nc],.agg #[e7 nd,.slice ga es'.length gc],e7 u,e7 v] I (λr J=>∃(a:Option Addr) (c:Nat) (w:Value),r = .tuple #[.agg #[e7 nd,.slice ga es'.length gc,.slice a (j5 nd es').length c],w]/\J=vk 3 a c (j5 nd es')::I):=by
 have a5:=q9 h.ok'
 have aw:=q9 h.ok
 have a1:=df2 h
 have ae:=G3 h.ok'
 have aa:=G3 h.ok
 refine Ce4 Tryz.func287 C C ?_
 refine Am<|Ge1 (Au (cs:=[_,_,_]) C C C) λb1=>Ge1 (Au (cs:=[_,_]) C C C) λb2=>Ge1 (Aj L5 C) λb3=>Ga C<|Ar<|Am<|Gf K5 C<|Gl am8 ?_
 refine Gr (Bl Ax C)<|Gf be7 C<|Gf K5 C<|Gl am8 ?_
 refine Gr (Bl Ax C)<|Gr (Ec C C)<|Ga C<|Ar<|A0 (S6 10 8 5 4 2 3)<|Am<|Ga C<|Ar<|Ay<|Am<|Gf K5 C<|Gl am8 ?_
 refine Gr (Bl Ax C)<|Gm C<|Ar<|A8<|B9 (σ:=Nat×(Option Addr)×Nat×(List Int)) (λs=>([(2,e7 u),(3,e7 v),(4,pt b1),(5,pt b2),(8,pt b3),(10,.bool<|decide<|((es.length:Nat):Int)<((es'.length:Nat):Int)),(11,.slice s.2.1 s.2.2.2.length s.2.2.1),(25,.slice ga es'.length gc),(26,e7<|((es'.length:Nat):Int)),(27,e7 ((s.1:Nat):Int))]:Env)) (λs=>vk 3 s.2.1 s.2.2.1 s.2.2.2::e8 b3 [e7 0,.slice none 0 0,.slice none 0 0] 41::e8 b2 [e7 nd,.slice ga es'.length gc] 38::e8 b1 [e7 nd,.slice ea es.length ec,.slice na (j5 nd es).length nc] 41::I) (λs=>(s.1<=es'.length)/\(NxI nd es' s.1 s.2.2.2)) (λs=>es'.length - s.1) (0,none,0,([]:List Int)) ⟨om,NxI.zero⟩ (cx4<|cx2<|Aa (Db C<|by first|rfl|simp)<|cx2<|Aa Cn Bb) (A7 (show Fit κ _ _ from Az)<|B6 (α:=Int) _ _) ?_
 rintro ⟨k,ba,bc,bd⟩ hp
 dsimp only at hp ⊢
 obtain ⟨hk,hb⟩:=hp
 have a4:=hb.len
 refine Am<|Gr (Bj C C)<|Ar<|Ay<|Al C (λaq=>?_)<|λaq=>?_
 ·refine Bc (Ao<|Ay<|A8<|Am<|Gr (A2 (α:=Pt) (xs:=es') Ax s9 C C (A4 M) om<|by first|omega|(rcases ab with ⟨q1,q2,q3⟩|q1<;>omega))<|Gr (Da (α:=Pt) (xs:=es') s9 C (A4 M) om<|by first|omega|(rcases ab with ⟨q1,q2,q3⟩|q1<;>omega))<|Ge1 (Aj s9 C) λb4=>Ge0 (Cr s9) ?_)
  refine Ar<|A0 (S11 13 2 3 4 5 8 10 11 25 26 27 C C C C C C C C C C C)<|Am<|Gf be7 C<|Gl2 J9 ?_
  refine Gf N8 C<|Gl ef ?_
  refine Gf N7 C<|Gl ef ?_
  refine G.e (Ac c_ C C<|at6 (nd:=nd) (A4 hl) ((e_ es' k).u) ((e_ es' k).v) om) ?_
  rintro _ _ ⟨_,_,⟨y5,rfl,ah,rfl⟩,rfl,rfl⟩
  refine Ga C ?_
  have ab:=as2 h.ok' h.ok om ah
  have ap:=λq:0<=y5/\y5<es.length=>ak3 h.ok' (j:=(y5).toNat) om
  have au:=λq:0<=y5=>show (((y5).toNat:Nat):Int)=y5 from H1 q
  refine Ar<|A0 (S11 14 2 3 4 5 8 10 11 25 26 27 C C C C C C C C C C C)<|A8<|Am<|Gm C<|Gr (Bj C C)<|Ga C<|Ar<|A0 (S12 46 14 2 3 4 5 8 10 11 25 26 27)<|Al C (λao=>?_)<|λao=>?_
  ·exact absurd (fi2 h om ah).1 om
  refine Am<|Gm C<|Ga C<|Ar<|A0 (S12 57 14 2 3 4 5 8 10 11 25 26 27)<|Al C (λav=>?_)<|λav=>?_
  ·omega
  refine Ba<|Gm C<|Gf cf8 C<|Gl W4 ?_
  refine Gm C<|Gr (A2 (α:=Int) (xs:=j5 nd es) Ab ef C C (A4 hm) om<|by first|omega|(rcases ab with ⟨q1,q2,q3⟩|q1<;>omega))<|Gr (B8 (xs:=j5 nd es) ef C (A4 hm) om<|by first|omega|(rcases ab with ⟨q1,q2,q3⟩|q1<;>omega)) ?_
  have an:=(fi2 h om ah).2
  refine Ge1 (B0 (α:=Int) (cs:=[_]) (xs:=[e_ (j5 nd es) y5]) Ab ef C C dc dc C C C C) λay=>?_
  refine Ge2 (Bp (α:=Int) (e:=3) (xs:=bd) (ys:=([e_ (j5 nd es) y5]:List Int)) Ab ef C C C mm A5 lcn dc C<|λ_ _=>am) λak aj=>?_
  exact Ga C<|Bs<|Av<|Av<|Ao<|A0 (S10 11 2 3 4 5 8 10 25 26 27)<|Ba<|Gr (Ct C C<|by first|(unfold InR;omega)|rcases ab with ⟨q1,q2,q3⟩|q1;(· have q4:=ap ⟨q1,q2⟩;rw [au q1] at q4;unfold InR;omega);(· omega))<|Gm C<|Bs<|Bt ((k+1),(ak),(aj),(bd++([e_ (j5 nd es) y5]:List Int)))<|by dsimp only;exact ⟨om,(hb.next an)⟩
 refine Ck<|Aw<|Aw<|Bi<|Ao<|Ay<|A9 mixed<|Bx (e8 b3 [e7 0,.slice none 0 0,.slice none 0 0] 41::e8 b2 [e7 nd,.slice ga es'.length gc] 38::e8 b1 [e7 nd,.slice ea es.length ec,.slice na (j5 nd es).length nc] 41::I) 6<|Dr 0 C (Bm (vs:=[_,_]) J9) ?_
 have ar:k=es'.length:=by omega
 rw [ar] at hb
 have ad:=hb.all
 refine Dr 1 C (Bm (vs:=[_,_]) J9) ?_
 refine Dr 2 C (Aq C)<|C8 (rs:=[3,5]) kr C C<|Ei ?_<|Do ?_
 ·refine Se C (Ac c_ C C<|Cl (J:=vk 3 ba bc bd::e8 b3 [e7 0,.slice none 0 0,.slice none 0 0] 41::e8 b2 [e7 nd,.slice ga es'.length gc] 38::e8 b1 [e7 nd,.slice ea es.length ec,.slice na (j5 nd es).length nc] 41::I) Az<|ba8 (nd:=nd) (es:=es') (bs:=bd) (A4 M) h.ok ad.1 ad.2<|A6 hT Ah) ?_
  rintro _ _ ⟨_,_,⟨rfl,rfl⟩,rfl,rfl⟩
  refine ⟨Az,?_⟩
  refine Dr 4 C (Cm (cells:=[_,_,_]) L5 Ey fw5 C C)<|Ds1 5<|Se1 C (Aj L5 C) λb9=>?_
  refine Cg kr ?_
  refine Ae 6 C (C9 L5) ?_
  rintro _ _ ⟨rfl,rfl⟩
  refine Ch kr ?_
  refine Ao<|A0 (S3 15 4 8)<|Ay<|A9 mixed<|Bx (e8 b9 [e7 nd,.slice ga es'.length gc,.slice ba (j5 nd es').length bc] 41::vk 3 ba bc (j5 nd es')::e8 b3 [e7 0,.slice none 0 0,.slice none 0 0] 41::e8 b2 [e7 nd,.slice ga es'.length gc] 38::e8 b1 [e7 nd,.slice ea es.length ec,.slice na (j5 nd es).length nc] 41::I) 4<|Dr 0 C (Bm (vs:=[_,_,_]) L5) ?_
  refine C8 (rs:=[1,2]) kr C C<|Ei ?_<|Do ?_
  ·refine Sr C (Bm (vs:=[_,_,_]) L5) Ai ?_
   refine Ds1 2<|Sr C (Bm (vs:=[_,_,_]) L5) Ai ?_
   refine Ds1 3<|Se C (Ac c_ C C<|P2 (nd:=nd) (nd':=nd) (es:=es) (es':=es') (num:=j5 nd es) (num':=j5 nd es') (A4 hl) (A4 hm) (A4 M) A5 om om ae aa) ?_
   rintro _ _ ⟨_,_,⟨a0,rfl,rfl⟩,rfl,rfl⟩
   refine ⟨Ai,?_⟩
   refine Cg kr ?_
   refine Ae 4 C (C9 L5) ?_
   rintro _ _ ⟨rfl,rfl⟩
   refine Dg (i:=5) kr C (Ap C) C C (Be C) ?_
   refine Ch kr ?_
   exact Ao<|B2<|Co C L5 C C mm C (vk 3 ba bc (j5 nd es')::I) Az ⟨ba,bc,_,rfl,rfl⟩
  refine Sr C (Bm (vs:=[_,_,_]) L5) Ai ?_
  refine Ds1 1<|Sr C (Bm (vs:=[_,_,_]) L5) Ai ?_
  refine Ds1 3<|Se C (Ac c_ C C<|P2 (nd:=nd) (nd':=nd) (es:=es) (es':=es') (num:=j5 nd es) (num':=j5 nd es') (A4 hl) (A4 hm) (A4 M) A5 om om ae aa) ?_
  rintro _ _ ⟨_,_,⟨ax,rfl,rfl⟩,rfl,rfl⟩
  refine ⟨Ai,?_⟩
  refine Cg kr ?_
  refine Ae 4 C (C9 L5) ?_
  rintro _ _ ⟨rfl,rfl⟩
  refine Dg (i:=5) kr C (Ap C) C C (Be C) ?_
  refine Ch kr ?_
  exact Ao<|B2<|Co C L5 C C mm C (vk 3 ba bc (j5 nd es')::I) Az ⟨ba,bc,_,rfl,rfl⟩
 refine Se1 C (Aj L5 C) λai=>?_
 refine Ds1 3<|Se C (Ac c_ C C<|Cl (J:=vk 3 ba bc bd::e8 ai [e7 0,.slice none 0 0,.slice none 0 0] 41::e8 b3 [e7 0,.slice none 0 0,.slice none 0 0] 41::e8 b2 [e7 nd,.slice ga es'.length gc] 38::e8 b1 [e7 nd,.slice ea es.length ec,.slice na (j5 nd es).length nc] 41::I) Az<|ba8 (nd:=nd) (es:=es') (bs:=bd) (A4 M) h.ok ad.1 ad.2<|A6 hT Ah) ?_
 rintro _ _ ⟨_,_,⟨rfl,rfl⟩,rfl,rfl⟩
 refine ⟨Az,?_⟩
 refine Dr 4 C (Cm (cells:=[_,_,_]) L5 Ey fw5 C C)<|Cg kr ?_
 refine Ae 6 C (C9 L5) ?_
 rintro _ _ ⟨rfl,rfl⟩
 refine Ch kr ?_
 refine Ao<|A0 (S3 15 4 8)<|Ay<|A9 mixed<|Ed 4<|Dr 0 C (Bm (vs:=[_,_,_]) L5) ?_
 refine C8 (rs:=[1,2]) kr C C<|Ei ?_<|Do ?_
 ·refine Sr C (Bm (vs:=[_,_,_]) L5) Ai ?_
  refine Ds1 2<|Sr C (Bm (vs:=[_,_,_]) L5) Ai ?_
  refine Ds1 3<|Se C (Ac c_ C C<|P2 (nd:=nd) (nd':=nd) (es:=es) (es':=es') (num:=j5 nd es) (num':=j5 nd es') (A4 hl) (A4 hm) (A4 M) A5 om om ae aa) ?_
  rintro _ _ ⟨_,_,⟨a3,rfl,rfl⟩,rfl,rfl⟩
  refine ⟨Ai,?_⟩
  refine Cg kr ?_
  refine Ae 4 C (C9 L5) ?_
  rintro _ _ ⟨rfl,rfl⟩
  refine Dg (i:=5) kr C (Ap C) C C (Be C) ?_
  refine Ch kr ?_
  exact Ao<|B2<|Co C L5 C C mm C (vk 3 ba bc (j5 nd es')::I) Az ⟨ba,bc,_,rfl,rfl⟩
 refine Sr C (Bm (vs:=[_,_,_]) L5) Ai ?_
 refine Ds1 1<|Sr C (Bm (vs:=[_,_,_]) L5) Ai ?_
 refine Ds1 3<|Se C (Ac c_ C C<|P2 (nd:=nd) (nd':=nd) (es:=es) (es':=es') (num:=j5 nd es) (num':=j5 nd es') (A4 hl) (A4 hm) (A4 M) A5 om om ae aa) ?_
 rintro _ _ ⟨_,_,⟨az,rfl,rfl⟩,rfl,rfl⟩
 refine ⟨Ai,?_⟩
 refine Cg kr ?_
 refine Ae 4 C (C9 L5) ?_
 rintro _ _ ⟨rfl,rfl⟩
 refine Dg (i:=5) kr C (Ap C) C C (Be C) ?_
 refine Ch kr ?_
 exact Ao<|B2<|Co C L5 C C mm C (vk 3 ba bc (j5 nd es')::I) Az ⟨ba,bc,_,rfl,rfl⟩
end Go.Sl
namespace Go.Sl
open Go.Proofs
set_option maxRecDepth 4000
variable{nd u v:Int}{ea na:Option Addr}{ec nc:Nat}{es:List Pt}
variable {κ:Ctx}{I:List Item}
attribute [local irreducible] W G V D A j7 Eff
theorem cy7(hl:Sl κ I (.slice ea es.length ec) es)(hm:Sl κ I (.slice na (j5 nd es).length nc) (j5 nd es))(hG:s8 nd es)(he:F5 nd u v)(hn:j4 u v∉es)(hT:F4 κ I 0 p5):eu prog κ 283 [.agg #[e7 nd,.slice ea es.length ec,.slice na (j5 nd es).length nc],e7 u,e7 v] I (λr J=>∃(ga:Option Addr) (gc:Nat) (a:Option Addr) (c:Nat) (w:Value),r = .tuple #[.agg #[e7 nd,.slice ga (z8 Pt.lt es (j4 u v)).length gc,.slice a (j5 nd (z8 Pt.lt es (j4 u v))).length c],w,e7 0]/\J=vk 3 a c (j5 nd (z8 Pt.lt es (j4 u v)))::vk 105 ga gc (z8 Pt.lt es (j4 u v))::I):=by
 refine Ce3 Tryz.func283 C C ?_
 refine Am<|Ge1 (Au (cs:=[_,_,_]) C C C) λb1=>Ge1 (Aj L5 C) λb2=>Z ?_
 refine Gc0 (Ac c_ C C<|cc0 (nd:=nd) (u:=u) (v:=v) (A4 hl) (A4 hm) hG he<|A6 hT Ah)<|Z ?_
 refine Al C (λah=>Z ?_)<|λah=>Z ?_
 ·refine Ge0 (C9 L5) (Z ?_)
  exact absurd rfl asm
 refine G.e (Ac c_ C C<|bb2 (nd:=nd) (u:=u) (v:=v) (A4 hl) (add_zero hG he hn)<|by have:=q9 hG;omega) ?_
 rintro _ _ ⟨_,_,⟨aa,M,rfl,rfl⟩,rfl,rfl⟩
 refine Z ?_
 refine Ge1 (Aj J9 C) λb5=>Ge0 (Cr J9)<|Z ?_
 refine Al C (λae=>Z ?_)<|λae=>Z ?_
 ·refine Ge0 (C9 L5) (Z ?_)
  exact absurd rfl asm
 refine G.e (Ac c_ C C<|fe5 (nd:=nd) (u:=u) (v:=v) (A4 hl) (A4 hm) A5 (R6.add hG he hn)<|A6 hT Ah) ?_
 rintro _ _ ⟨_,_,⟨ad,ab,w8,rfl,rfl⟩,rfl,rfl⟩
 refine Z ?_
 refine Ge1 (Aj L5 C) λb9=>Ge0 (C9 L5)<|Z ?_
 refine Ge0 (C9 L5)<|Z ?_
 exact Cu C L5 C C C mm C (vk 3 ad ab (j5 nd<|z8 Pt.lt es<|j4 u v)::vk 105 aa M (z8 Pt.lt es<|j4 u v)::I) Az ⟨aa,M,ad,ab,_,rfl,rfl⟩
theorem cy8(hl:Sl κ I (.slice ea es.length ec) es)(hm:Sl κ I (.slice na (j5 nd es).length nc) (j5 nd es))(hG:s8 nd es)(he:F5 nd u v)(hn:j4 u v∈es)(hT:F4 κ I 0 p5):eu prog κ 284 [.agg #[e7 nd,.slice ea es.length ec,.slice na (j5 nd es).length nc],e7 u,e7 v] I (λr J=>∃(ga:Option Addr) (gc:Nat) (a:Option Addr) (c:Nat) (w:Value),r = .tuple #[.agg #[e7 nd,.slice ga (j6 es (j4 u v)).length gc,.slice a (j5 nd (j6 es (j4 u v))).length c],w,e7 0]/\J=vk 3 a c (j5 nd (j6 es (j4 u v)))::vk 105 ga gc (j6 es (j4 u v))::I):=by
 refine Ce3 Tryz.func284 C C ?_
 refine Am<|Ge1 (Au (cs:=[_,_,_]) C C C) λb1=>Ge1 (Aj L5 C) λb2=>Z ?_
 refine Gc0 (Ac c_ C C<|cc0 (nd:=nd) (u:=u) (v:=v) (A4 hl) (A4 hm) hG he<|A6 hT Ah)<|Z ?_
 refine Al C (λah=>Z ?_)<|λah=>Z ?_
 ·refine Ge0 (C9 L5) (Z ?_)
  exact absurd rfl asm
 refine Gc2 (Ac c_ C C<|bb0 (nd:=nd) (u:=u) (v:=v) (A4 hl) (az6 hG he hn)<|by have:=q9 hG;omega) λaa M=>Z ?_
 refine Ge1 (Aj J9 C) λb5=>Ge0 (Cr J9)<|Z ?_
 refine Al C (λae=>Z ?_)<|λae=>Z ?_
 ·refine Ge0 (C9 L5) (Z ?_)
  exact absurd rfl asm
 refine G.e (Ac c_ C C<|fe6 (nd:=nd) (u:=u) (v:=v) (A4 hl) (A4 hm) A5 (R6.rem hG he hn)<|A6 hT Ah) ?_
 rintro _ _ ⟨_,_,⟨ad,ab,w8,rfl,rfl⟩,rfl,rfl⟩
 refine Z ?_
 refine Ge1 (Aj L5 C) λb9=>Ge0 (C9 L5)<|Z ?_
 refine Ge0 (C9 L5)<|Z ?_
 exact Cu C L5 C C C mm C (vk 3 ad ab (j5 nd<|j6 es<|j4 u v)::vk 105 aa M (j6 es<|j4 u v)::I) Az ⟨aa,M,ad,ab,_,rfl,rfl⟩
end Go.Sl
