/- A part of the proofs of statements of this seat: contracts of functions, and the plain laws that they lean on. No conditions. -/
import Derived.Test.YtnbkccjkdpolmaaGreatDoorA17
set_option linter.unusedVariables false
set_option linter.unusedSimpArgs false
set_option linter.unusedSectionVars false
open Go.Proofs.Tryz (prog)
set_option maxHeartbeats 2000000
namespace Go.Sl
open Go.Proofs
set_option maxRecDepth 4000
attribute [local irreducible] W G V D A Runs Eff
def togQ(nd kd wd mo:Int)(es:List Ev)(xs:List Int)(lv t:Int):Prop:=∀x∈xs,x∈commG nd (atG kd wd mo es t) (e_ xs 0) lv
theorem ATog_ok{κ:Ctx}{I:List Item}{nd kd wd mo lv:Int}{ea sa:Option Addr}{ec sc:Nat}{es:List Ev}{xs:List Int}(hl:Sl κ I (.slice ea es.length ec) es)(hs:Sl κ I (.slice sa xs.length sc) xs)(hH:HistOk nd kd wd mo es)(hlen:es.length<=19)(hx:0<xs.length/\xs.length<=64)(ak:ValidP xs nd)(hT:TabRd κ I 0 tzCells):eu prog κ 36 [e7 nd,.slice ea es.length ec,.agg #[e7 kd,e7 wd,e7 mo],.slice sa xs.length sc,e7 lv] I (λr J=>∃tv ok,r = .tuple #[e7 tv,.bool ok,e7 0]/\FirstP kd wd mo es (togQ nd kd wd mo es xs lv) tv ok/\I=J):=by
 refine eu.enterM (L:=[(0,e7 nd),(1,.slice ea es.length ec),(2,.agg #[e7 kd,e7 wd,e7 mo]),(3,.slice sa xs.length sc),(4,e7 lv)]) Tryz.func36 C C C C ?_
 refine Ar<|Ge1 (Al (cs:=[_,_,_]) C C C) λb1=>Ge1 (Al (cs:=[_]) C C C) λb2=>Ge1 (Al (cs:=[_]) C C C) λb3=>Ge1 (Am ef C) λb4=>Ge1 (Am ty4 C) λb5=>Ge1 (Am ty43 C) λb6=>Z ?_
 refine Gc0 (Ac c_ C C<|ACheck_ok (nd:=nd) (kd:=kd) (wd:=wd) (mo:=mo)<|Au hl)<|Z ?_
 refine Ap C (λap=>?_)<|λap=>Z ?_
 ·exact absurd (slideE_zeroH hH) ap
 refine Gc0 (Ac c_ C C<|NValid_ok (Au hs) nd)<|Z ?_
 refine A6 (d:=29) C (λao=>?_)<|λao=>Z ?_
 ·exact absurd ak<|by first|assumption|simpa using ao
 refine Z ?_
 refine Bg (S9 33 12 11 10 9 8 7 0 1 C C C C C C C C C)<|Ap C (λar=>?_)<|λar=>?_
 ·exact absurd ar<|by first|assumption|omega|simp
 refine Bt<|Ay<|A5<|Ar<|Gm C<|Gm C<|Gl3 ty31 ?_
 refine G.e (Ac c_ C C Frames_ok) ?_
 rintro _ _ ⟨_,_,⟨M,ab,aa,rfl,rfl⟩,rfl,rfl⟩
 refine As<|Bk<|W.fit (J:=e8 b4 [e7 0] 3::e8 b5 [.bool false] 4::e8 b6 [e7 0] 43::e8 aa [e7 kd,e7 wd,e7 mo] 31::e8 ab [.slice ea es.length ec] 28::e8 M [e7 nd] 3::e8 b3 [e7 lv] 3::e8 b2 [.slice sa xs.length sc] 22::e8 b1 [e7 kd,e7 wd,e7 mo] 31::I) Bb ?_
 refine W.rangeFnB (gf:=131) (lb:=[.pointer (some ⟨M,0,none⟩),.pointer<|some ⟨ab,0,none⟩,.pointer<|some ⟨aa,0,none⟩]) C c_ λDm l rc an au aw a1 ax=>?_
 refine (Frames1_ok (I:=e8 aa [e7 kd,e7 wd,e7 mo] 31::e8 ab [.slice ea es.length ec] 28::e8 M [e7 nd] 3::e8 b3 [e7 lv] 3::e8 b2 [.slice sa xs.length sc] 22::e8 b1 [e7 kd,e7 wd,e7 mo] 31::I) (σ:=Unit) (τ:=Int) (l:=l) (Lf:=λs=>[recI l rc,dfrI Dm,e8 b4 [e7 0] 3,e8 b5 [.bool false] 4,e8 b6 [e7 0] 43]) (Pf:=λfst j s=>(∀i:Nat,i<j->¬(togQ nd kd wd mo es xs lv) (e_ (allE kd wd mo es) i).tm)) (Xf:=λs=>[recI l {rc with state:= .done,pending:=some .ret},dfrI Dm,e8 b4 [e7 s] 3,e8 b5 [.bool true] 4,e8 b6 [e7 0] 43]) (Qf:=λs=>(FirstYes kd wd mo es (togQ nd kd wd mo es xs lv) s)) (s0:=()) hH hlen (Cw mm) (Cw mm) (Cw mm) (Au hl) (λi h=>absurd h<|Nat.not_lt_zero i) ?_).mono ?_
 ·rintro T ad fst j tm own j1 ga gc hM _ hp
  have hq:(∀i:Nat,i<j->¬(togQ nd kd wd mo es xs lv) (e_ (allE kd wd mo es) i).tm):=hp
  have aj:BlkRd κ T b2 [.slice sa xs.length sc] 22:=(Cw (I:=e8 aa [e7 kd,e7 wd,e7 mo] 31::e8 ab [.slice ea es.length ec] 28::e8 M [e7 nd] 3::e8 b3 [e7 lv] 3::e8 b2 [.slice sa xs.length sc] 22::e8 b1 [e7 kd,e7 wd,e7 mo] 31::I) mm).fit ad
  have aq:BlkRd κ T b3 [e7 lv] 3:=(Cw (I:=e8 aa [e7 kd,e7 wd,e7 mo] 31::e8 ab [.slice ea es.length ec] 28::e8 M [e7 nd] 3::e8 b3 [e7 lv] 3::e8 b2 [.slice sa xs.length sc] 22::e8 b1 [e7 kd,e7 wd,e7 mo] 31::I) mm).fit ad
  have az:TabRd κ T 0 tzCells:=(A8 (J:=e8 aa [e7 kd,e7 wd,e7 mo] 31::e8 ab [.slice ea es.length ec] 28::e8 M [e7 nd] 3::e8 b3 [e7 lv] 3::e8 b2 [.slice sa xs.length sc] 22::e8 b1 [e7 kd,e7 wd,e7 mo] 31::I) hT Ah).fit ad
  have ae:=mom_graph hH hM
  have a4:GrOk nd (edgesK<|eh<|(allE kd wd mo es).take j1):=by rw [ae];exact hH.graph tm
  have a3:Sl κ T (.slice sa xs.length sc) xs:=(Au hs).fit ad
  refine YieldB.fit (J:=recI l rc::vc 95 (.slice ga (edgesK<|eh<|(allE kd wd mo es).take j1).length gc) (edgesK<|eh<|(allE kd wd mo es).take j1)::dfrI Dm::e8 b4 [e7 0] 3::e8 b5 [.bool false] 4::e8 b6 [e7 0] 43::T) Bb ?_
  refine YieldB.mkA (L₀:=[(39,.agg #[e7 nd,.slice ga (edgesK<|eh<|(allE kd wd mo es).take j1).length gc]),(38,.agg #[e7 tm,.bool own]),(37,.func (.func 131) #[] #[.pointer (some ⟨M,0,none⟩),.pointer<|some ⟨ab,0,none⟩,.pointer<|some ⟨aa,0,none⟩]),(36,.agg #[e7 kd,e7 wd,e7 mo]),(35,.slice ea es.length ec),(34,e7 nd),(33,.bool<|decide<|((xs.length:Nat):Int)=0),(12,.pointer<|some ⟨b6,0,none⟩),(11,.pointer<|some ⟨b5,0,none⟩),(10,.pointer<|some ⟨b4,0,none⟩),(9,.pointer<|some ⟨b3,0,none⟩),(8,.pointer<|some ⟨b2,0,none⟩),(7,.pointer<|some ⟨b1,0,none⟩),(0,e7 nd),(1,.slice ea es.length ec)]) (by rw [au];rfl) aw a1 (by rw [au,fold_two];exact ag_two ax C C) ?_
  refine Ex ?_
  refine Dp (λ_ _ h=>False.elim h) C ?_
  refine Ge1 (Am ty115 C) λa0=>Ge0 (Cf ty115) ?_
  refine Bi<|D9 ?_
  refine Fk (L':=[(14,_),(39,_),(12,_),(11,_),(10,_),(9,_),(8,_)]) (Ab C<|Ab C<|Ab C<|Ab C<|Ab C<|Ab C<|Ab C Bs) ?_
  refine Dp (λ_ _ h=>False.elim h) C ?_
  refine Ge1 (Am ty56 C) λay=>Ge0 (Cf ty56) ?_
  refine Bi<|V.begin (e8 ay [e7 nd,.slice ga (edgesK<|eh<|(allE kd wd mo es).take j1).length gc] 56::e8 a0 [e7 tm,.bool own] 115::vc 95 (.slice ga (edgesK<|eh<|(allE kd wd mo es).take j1).length gc) (edgesK<|eh<|(allE kd wd mo es).take j1)::dfrI Dm::e8 b4 [e7 0] 3::e8 b5 [.bool false] 4::e8 b6 [e7 0] 43::T) Bb an ?_
  refine WR.block ?_
  refine Ex ?_
  refine WR.drawn mixed (λ_ _ h=>False.elim h) C ?_
  refine Cr 11<|Z ?_
  refine Dr 1 C (Cs ty22 C (Co aj Ah) C)<|Z ?_
  refine Dr 4 C (Cs ef C (Co aq Ah) C)<|Ds1 5<|Se C (Ac c_ C C<|Comm_ok (nd:=nd) (v:=e_ xs 0) (lv:=lv) A7 a4 (by have h:=(ak 0 om).1;exact h)<|A8 az Ah) ?_
  rintro _ _ ⟨_,_,⟨a5,a6,rfl,rfl⟩,rfl,rfl⟩
  refine ⟨Aj,?_⟩
  refine Z ?_
  refine D9 ?_
  refine Fk (L':=[(17,_),(16,_),(14,_),(12,_),(11,_),(10,_),(8,_)]) (Ab C<|Ab C<|Ab C<|Ab C<|Ab C<|Ab C<|Ab C Bs) ?_
  refine Ex ?_
  refine Dp (λ_ _ h=>False.elim h) C<|Z ?_
  refine Ce (d:=51) C (λah=>Z ?_)<|λah=>?_
  ·refine A6 (d:=55) C (λav=>?_) (λav=>?_)
   ·refine e9 (Cs ty22 C (Co aj Ah) C) (e9 (Af C)<|Dn (B7 C C C) (Ac c_ C C<|WithinI_ok (Au a3) A7 om<|by have:=rchG_len nd (edgesK<|eh<|(allE kd wd mo es).take j1) [e_ xs 0] (coreK nd (edgesK<|eh<|(allE kd wd mo es).take j1) lv);show (rchG _ _ _ _).length<=_;omega) ?_)
    rintro _ _ ⟨_,_,⟨rfl,rfl⟩,rfl,rfl⟩
    refine Z ?_
    refine D9 ?_
    refine Fk (L':=[(59,_),(14,_),(12,_),(11,_),(10,_)]) (Ab C<|Ab C<|Ab C<|Ab C<|Ab C Bs) ?_
    refine WR.ite C (λai=>?_)<|λai=>?_
    ·refine Ex ?_
     refine Dp (λ_ _ h=>False.elim h) C ?_
     refine Gf fld115_0 C<|Gl ef ?_
     refine Ge0 (A3 (cs:=[_]) (vs:=[_]) (cs':=[_]) ef) ?_
     refine Ge0 (A3 (cs:=[_]) (vs:=[_]) (cs':=[_]) ty4) ?_
     refine Ge0 (A3 (cs:=[_]) (vs:=[_]) (cs':=[_]) ty43) ?_
     refine Bi<|D9 ?_
     refine WR.ret ?_
     exact B6<|V.roundRet (dfrI Dm::e8 b4 [e7 tm] 3::e8 b5 [.bool true] 4::e8 b6 [e7 0] 43::T) Bb<|.inr ⟨rfl,(tm),(fi_yes hH hM hq ah<|by unfold togQ;rw [←ae];exact ai),rfl⟩
    refine WR.skip ?_
    exact Av<|E5 (dfrI Dm::e8 b4 [e7 0] 3::e8 b5 [.bool false] 4::e8 b6 [e7 0] 43::T) Bb an<|.inl ⟨rfl,(),(fi_next hM hq<|by first|exact λh=>absurd (ah.symm.trans h) dc|exact λ_ h=>ai<|by unfold togQ at h;rw [←ae] at h;exact h),rfl⟩
   exact absurd rfl av
  refine eb<|eb<|Gr (Ao C C)<|Gm C<|eb<|eb<|eb<|Gr (Ao C C)<|Bi<|D9 ?_
  refine Fk (L':=[(59,_),(14,_),(12,_),(11,_),(10,_)]) (Ab C<|Ab C<|Ab C<|Ab C<|Ab C Bs) ?_
  refine WR.no C ?_
  refine WR.skip ?_
  exact Av<|E5 (dfrI Dm::e8 b4 [e7 0] 3::e8 b5 [.bool false] 4::e8 b6 [e7 0] 43::T) Bb an<|.inl ⟨rfl,(),(fi_next hM hq<|by first|exact λh=>absurd (ah.symm.trans h) dc|exact λ_ h=>ai<|by unfold togQ at h;rw [←ae] at h;exact h),rfl⟩
 rintro v K ⟨rfl,(⟨_,hp,rfl⟩|⟨tv,hp,rfl⟩)⟩
 ·have hq:(∀i:Nat,i<(allE kd wd mo es).length->¬(togQ nd kd wd mo es xs lv) (e_ (allE kd wd mo es) i).tm):=hp
  refine .inl ⟨_,rfl,?_⟩
  show V κ _ _ .normal ([(37,.func (.func 131) #[] #[.pointer (some ⟨M,0,none⟩),.pointer<|some ⟨ab,0,none⟩,.pointer<|some ⟨aa,0,none⟩]),(36,.agg #[e7 kd,e7 wd,e7 mo]),(35,.slice ea es.length ec),(34,e7 nd),(33,.bool<|decide<|((xs.length:Nat):Int)=0),(12,.pointer<|some ⟨b6,0,none⟩),(11,.pointer<|some ⟨b5,0,none⟩),(10,.pointer<|some ⟨b4,0,none⟩),(9,.pointer<|some ⟨b3,0,none⟩),(8,.pointer<|some ⟨b2,0,none⟩),(7,.pointer<|some ⟨b1,0,none⟩),(0,e7 nd),(1,.slice ea es.length ec)]:Env) (dfrI Dm::e8 b4 [e7 0] 3::e8 b5 [.bool false] 4::e8 b6 [e7 0] 43::e8 aa [e7 kd,e7 wd,e7 mo] 31::e8 ab [.slice ea es.length ec] 28::e8 M [e7 nd] 3::e8 b3 [e7 lv] 3::e8 b2 [.slice sa xs.length sc] 22::e8 b1 [e7 kd,e7 wd,e7 mo] 31::I)
  refine Av<|Ay<|Ar<|Ge0 (A3 (cs:=[_]) (vs:=[_]) (cs':=[_]) ef) ?_
  refine Ge0 (A3 (cs:=[_]) (vs:=[_]) (cs':=[_]) ty4) ?_
  refine Ge0 (A3 (cs:=[_]) (vs:=[_]) (cs':=[_]) ty43) ?_
  refine As<|Bf<|V.fit (J:=dfrI Dm::e8 b4 [e7 0] 3::e8 b5 [.bool false] 4::e8 b6 [e7 0] 43::e8 aa [e7 kd,e7 wd,e7 mo] 31::e8 ab [.slice ea es.length ec] 28::e8 M [e7 nd] 3::e8 b3 [e7 lv] 3::e8 b2 [.slice sa xs.length sc] 22::e8 b1 [e7 kd,e7 wd,e7 mo] 31::I) Bb<|V.leave ?_
  exact V.retv3 C ef ty4 ty43 C C C mm mm mm I Ah ⟨0,false,rfl,.inr ⟨rfl,rfl,fi_no hq⟩,rfl⟩
 have hQ:(FirstYes kd wd mo es (togQ nd kd wd mo es xs lv) tv):=hp
 refine .inr ⟨_,_,rfl,?_⟩
 refine Bf<|B6<|Bq<|V.fit (J:=dfrI Dm::e8 b4 [e7 tv] 3::e8 b5 [.bool true] 4::e8 b6 [e7 0] 43::e8 aa [e7 kd,e7 wd,e7 mo] 31::e8 ab [.slice ea es.length ec] 28::e8 M [e7 nd] 3::e8 b3 [e7 lv] 3::e8 b2 [.slice sa xs.length sc] 22::e8 b1 [e7 kd,e7 wd,e7 mo] 31::I) Bb<|V.leave ?_
 exact V.retv3 C ef ty4 ty43 C C C mm mm mm I Ah ⟨tv,true,rfl,.inl ⟨rfl,hQ⟩,rfl⟩
end Go.Sl
namespace Go.Sl
open Go.Proofs
set_option maxRecDepth 4000
section
variable {n kd wd mo:Int}{es:List Ev}(hH:HistOk n kd wd mo es)(hn:2<=n)(a a2:Option Addr)(c c2:Nat)
include hH hn
end
end Go.Sl
namespace Go.Sl
open Go.Proofs
set_option maxRecDepth 4000
variable{b:Nat}{lv:Value}{ls:List Int}{i nodes:Int}
variable {κ:Ctx}{I:List Item}
attribute [local irreducible] W G V D A Runs Eff
abbrev frL:List Fr:=[⟨0,1⟩,⟨1,2⟩,⟨2,3⟩,⟨1,1⟩,⟨4,3⟩,⟨3,2⟩,⟨5,4⟩,⟨2,1⟩]
theorem frL_ok:∀x∈frL,FrV x:=by
 have h:∀x∈frL,0<=x.num/\x.num<=1073741824/\1<=x.den/\x.den<=1073741824/\gcdI x.num x.den=1:=by decide
 exact λx M=>⟨(h x M).1,(h x M).2.1,(h x M).2.2.1,(h x M).2.2.2.1,(h x M).2.2.2.2⟩
theorem frL_num:∀x∈frL,x.num<=5:=by decide
theorem MkFrac_base(hl:∀q,Sl κ (deck b lv q::I) lv ls)(h0:0<=i)   :
    eu prog κ 25 [.pointer (some ⟨b,0,none⟩)] (e8 b [lv,e7 i] 65::I) (λr J=>∃y:Int×Int×Int,((r = .agg #[e7 y.1,e7 y.2.1]/\FrV ⟨y.1,y.2.1⟩/\y.1<=5)/\0<=y.2.2)/\J=[]++deck b lv y.2.2::I):=by
 refine Ce1 Tryz.func25 C C ?_
 refine Ar<|Ge1 (Am ty34 C) λb1=>Z ?_
 refine Ge1 (B9 (α:=Fr) (cs:=[e7 0,e7 1,e7 1,e7 2,e7 2,e7 3,e7 1,e7 1,e7 4,e7 3,e7 3,e7 2,e7 5,e7 4,e7 2,e7 1]) (xs:=[⟨0,1⟩,⟨1,2⟩,⟨2,3⟩,⟨1,1⟩,⟨4,3⟩,⟨3,2⟩,⟨5,4⟩,⟨2,1⟩]) Tryz.underlying96 ty34 C C dc dc C kr C C) λad=>Z ?_
 refine G.e (Ac c_ C C<|Next_ok (by repeat (first|exact AtF.head _ _|apply AtF.tail)) (Bm (hl _) Ah) om om) ?_
 rintro _ _ ⟨_,_,⟨x3,M,rfl,aa,ab,rfl⟩,rfl,rfl⟩
 refine Gr (Az (α:=Fr) (xs:=([⟨0,1⟩,⟨1,2⟩,⟨2,3⟩,⟨1,1⟩,⟨4,3⟩,⟨3,2⟩,⟨5,4⟩,⟨2,1⟩]:List Fr)) Tryz.underlying96 ty34 C C A7 om<|by first|omega|(simp only [List.length_cons,List.length_nil];omega))<|Gr (Dt (α:=Fr) (xs:=([⟨0,1⟩,⟨1,2⟩,⟨2,3⟩,⟨1,1⟩,⟨4,3⟩,⟨3,2⟩,⟨5,4⟩,⟨2,1⟩]:List Fr)) ty34 C A7 om<|by first|omega|(simp only [List.length_cons,List.length_nil];omega))<|Ge0 (Cf ty34)<|Z ?_
 exact B0 C ty34 C mm C (e8 b [lv,e7 M] 65::I) Aj ⟨((e_ ([⟨0,1⟩,⟨1,2⟩,⟨2,3⟩,⟨1,1⟩,⟨4,3⟩,⟨3,2⟩,⟨5,4⟩,⟨2,1⟩]:List Fr) x3).num,(e_ ([⟨0,1⟩,⟨1,2⟩,⟨2,3⟩,⟨1,1⟩,⟨4,3⟩,⟨3,2⟩,⟨5,4⟩,⟨2,1⟩]:List Fr) x3).den,M),⟨⟨rfl,frL_ok _<|Bx (xs:=frL) om<|by show _<(8:Int);omega,frL_num _<|Bx (xs:=frL) om<|by show _<(8:Int);omega⟩,by show 0<=M;omega⟩,rfl⟩
theorem MkFrac_at{F:Item->List Item}(M:AtF I (deck b lv i) F)(hl:∀q,Sl κ (F (deck b lv q)) lv ls)(h0:0<=i)   :
  eu prog κ 25 [.pointer (some ⟨b,0,none⟩)] I λr J=>∃y:Int×Int×Int,((r = .agg #[e7 y.1,e7 y.2.1]/\FrV ⟨y.1,y.2.1⟩/\y.1<=5)/\0<=y.2.2)/\J=[]++F (deck b lv y.2.2):=
 Ep (Post:=λr (y:Int×Int×Int)=>(r = .agg #[e7 y.1,e7 y.2.1]/\FrV ⟨y.1,y.2.1⟩/\y.1<=5)/\0<=y.2.2) (Z:=λy:Int×Int×Int=>[]) (X:=λy:Int×Int×Int=>deck b lv y.2.2) M λJ _ hF=>MkFrac_base (λq=>(hl q).fit (hF _)) h0  
theorem one_valid{x n:Int}(h:0<=x/\x<n):ValidP [x] n:=λj hj=>by
 have M:j<1:=hj
 obtain rfl:j=0:=by omega
 exact ⟨h,λh=>absurd h dc⟩
theorem MkSome_base(hl:∀q,Sl κ (deck b lv q::I) lv ls)(h0:0<=i)(hn:1<=nodes/\nodes<=64):eu prog κ 24 [.pointer (some ⟨b,0,none⟩),e7 nodes] (e8 b [lv,e7 i] 65::I) (λr J=>∃y:(Option Addr)×Nat×(List Int)×Int,((r = .slice y.1 y.2.2.1.length y.2.1/\ValidP y.2.2.1 nodes/\(0<y.2.2.1.length/\(y.2.2.1.length:Int)<=nodes))/\0<=y.2.2.2)/\J=[vc 3 (.slice y.1 y.2.2.1.length y.2.1) y.2.2.1]++deck b lv y.2.2.2::I):=by
 refine Ce2 Tryz.func24 C C<|Z ?_
 refine G.e (Ac c_ C C<|Set_at (by repeat (first|exact AtF.head _ _|apply AtF.tail)) (λ_=>Bm (hl _) Ah) om om) ?_
 rintro _ _ ⟨_,_,⟨ab,aa,M,i1,rfl,ad,aj,an,rfl⟩,rfl,rfl⟩
 refine Z ?_
 refine A6 (d:=12) C (λah=>Z ?_)<|λah=>Z ?_
 ·refine Ap C (λai=>Z ?_) (λai=>Z ?_)
  ·refine G.e (Ac c_ C C<|Next_ok (by repeat (first|exact AtF.head _ _|apply AtF.tail)) (Bm (hl _) Ah) om om) ?_
   rintro _ _ ⟨_,_,⟨x5,i6,rfl,ak,ao,rfl⟩,rfl,rfl⟩
   refine Ge1 (B9 (α:=Int) (cs:=[_]) (xs:=[x5]) Aa ef C C dc dc C C C C) λae=>Z ?_
   exact Ai C C (vc 3 (.slice ae 1 1) (([x5]:List Int))::e8 b [lv,e7 i6] 65::I) Aj ⟨(ae,1,([x5]:List Int),i6),⟨⟨rfl,one_valid om,by show 0<1/\((1:Nat):Int)<=nodes;omega⟩,by show 0<=i6;omega⟩,rfl⟩
  exact Ai C C (vc 3 (.slice ab M.length aa) (M)::e8 b [lv,e7 i1] 65::I) Aj ⟨(ab,aa,M,i1),⟨⟨rfl,ad,by show 0<M.length/\(M.length:Int)<=nodes;omega⟩,by show 0<=i1;omega⟩,rfl⟩
 exact Ai C C (vc 3 (.slice ab M.length aa) (M)::e8 b [lv,e7 i1] 65::I) Aj ⟨(ab,aa,M,i1),⟨⟨rfl,ad,by show 0<M.length/\(M.length:Int)<=nodes;omega⟩,by show 0<=i1;omega⟩,rfl⟩
theorem MkSome_at{F:Item->List Item}(M:AtF I (deck b lv i) F)(hl:∀q,Sl κ (F (deck b lv q)) lv ls)(h0:0<=i)(hn:1<=nodes/\nodes<=64):eu prog κ 24 [.pointer (some ⟨b,0,none⟩),e7 nodes] I λr J=>∃y:(Option Addr)×Nat×(List Int)×Int,((r = .slice y.1 y.2.2.1.length y.2.1/\ValidP y.2.2.1 nodes/\(0<y.2.2.1.length/\(y.2.2.1.length:Int)<=nodes))/\0<=y.2.2.2)/\J=[vc 3 (.slice y.1 y.2.2.1.length y.2.1) y.2.2.1]++F (deck b lv y.2.2.2):=
 Ep (Post:=λr (y:(Option Addr)×Nat×(List Int)×Int)=>(r = .slice y.1 y.2.2.1.length y.2.1/\ValidP y.2.2.1 nodes/\(0<y.2.2.1.length/\(y.2.2.1.length:Int)<=nodes))/\0<=y.2.2.2) (Z:=λy:(Option Addr)×Nat×(List Int)×Int=>[vc 3 (.slice y.1 y.2.2.1.length y.2.1) y.2.2.1]) (X:=λy:(Option Addr)×Nat×(List Int)×Int=>deck b lv y.2.2.2) M λJ _ hF=>MkSome_base (λq=>(hl q).fit (hF _)) h0  hn
end Go.Sl
namespace Go.Sl
open Go.Proofs
set_option maxRecDepth 4000






section
variable {nd kd wd mo lv t:Int}{es:List Ev}{xs:List Int}
theorem first_rng{p:Int->Prop}{t1:Int}{k1:Bool}(hH:HistOk nd kd wd mo es)(h1:FirstP kd wd mo es p t1 k1):(0<=t1/\t1<=1048576)/\(k1=true->p t1):=by
 rcases h1 with ⟨_,⟨e,he,rfl⟩,hp,_⟩|⟨hf,h0,_⟩
 ·exact ⟨(hH.allFit e he).tm,λ_=>hp⟩
 exact ⟨by omega,λh=>by rw [hf] at h;cases h⟩
end
end Go.Sl
namespace Go.Sl
variable{b b1 size v:Int}{A1 M:BitVec 64}{left q:Nat}{out:List Int}
def Clq(rows:List (BitVec 64))(X:List Int):Prop:=X.Pairwise λa b=>a<b/\b∈eo (e_ rows a)
structure ClqIn (rows:List (BitVec 64)) (W:BitVec 64) (X:List Int):Prop where
 clq:Clq rows X
 sub:∀x∈X,x∈eo W
section
variable {n:Nat}{rows:List (BitVec 64)}{W A B F:BitVec 64}{X Y:List Int}
theorem Clq.nodup(h:Clq rows X):X.Nodup:=h.imp λh=>by omega
theorem Clq.adj(h:Clq rows X)(hS:SymB n rows)(hX:∀x∈X,0<=x/\x<n){x y:Int}(hx:x∈X)(hy:y∈X)(M:x≠y):y∈eo (e_ rows x):=by
 obtain ⟨i,hi,rfl⟩:=List.getElem_of_mem hx
 obtain ⟨j,hj,rfl⟩:=List.getElem_of_mem hy
 rcases Nat.lt_trichotomy i j with h1|h1|h1
 ·exact ((List.pairwise_iff_getElem.1 h) i j hi hj h1).2
 ·subst h1;exact absurd rfl M
 have h2:=((List.pairwise_iff_getElem.1 h) j i hj hi h1).2
 have h3:=hX _ hy
 exact hS.sym _ _ h3.1 h3.2 h2
theorem ClqIn.nil(rows:List (BitVec 64))(W:BitVec 64):ClqIn rows W []:=⟨List.Pairwise.nil,λx h=>by cases h⟩
theorem ClqIn.mono(h:ClqIn rows A X)(hs:∀x∈eo A,x∈eo B):ClqIn rows B X:=⟨h.clq,λx M=>hs x (h.sub x M)⟩
theorem ClqIn.len(h:ClqIn rows W X):X.length<=(eo W).length:=List.Nodup.length_le_of_subset h.clq.nodup h.sub
theorem ClqIn.zero(h:ClqIn rows 0#64 X):X=[]:=by
 cases X with
 |nil=>rfl
 |cons x xs=>have:=h.sub x List.mem_cons_self;rw [listB_zero] at this;cases this
theorem ClqIn.split(h:ClqIn rows W X)(hm:v∈eo W)(hv:∀u∈eo W,v<=u):(∃Y,X=v::Y/\ClqIn rows ((W &&& ~~~(1#64 <<< v.toNat)) &&& e_ rows v) Y)\/ClqIn rows (W &&& ~~~(1#64 <<< v.toNat)) X:=by
 have M:=(listB_lt hm).1
 cases X with
 |nil=>exact .inr (ClqIn.nil _ _)
 |cons x Y=>
  obtain ⟨h1,h2⟩:=List.pairwise_cons.1 h.clq
  by_cases e:x=v
  ·subst e
   refine .inl ⟨Y,rfl,h2,λy hy=>?_⟩
   have h3:=h1 y hy
   exact mem_andB.2 ⟨(mem_minus M).2 ⟨h.sub y<|List.mem_cons_of_mem _ hy,by omega⟩,h3.2⟩
  refine .inr ⟨h.clq,λy hy=>(mem_minus M).2 ⟨h.sub y hy,λe2=>?_⟩⟩
  have hx:=hv x (h.sub x List.mem_cons_self)
  rcases List.mem_cons.1 hy with rfl|hy
  ·exact e e2
  have:=(h1 y hy).1;omega
theorem ClqIn.cons(h:ClqIn rows ((W &&& ~~~(1#64 <<< v.toNat)) &&& e_ rows v) Y)(M:v∈eo W)(hv:∀u∈eo W,v<=u):ClqIn rows W (v::Y):=by
 have h0:=(listB_lt M).1
 refine ⟨List.pairwise_cons.2 ⟨λy hy=>?_,h.clq⟩,λy hy=>?_⟩
 ·obtain ⟨h1,h2⟩:=mem_andB.1 (h.sub y hy)
  obtain ⟨h3,h4⟩:=(mem_minus h0).1 h1
  have:=hv y h3
  exact ⟨by omega,h2⟩
 rcases List.mem_cons.1 hy with rfl|hy
 ·exact M
 exact ((mem_minus h0).1 (mem_andB.1<|h.sub y hy).1).1
def inC(X:List Int)(A:BitVec 64):Nat:=(X.filter λx=>decide (x∈eo A)).length
theorem inC_all(h:∀x∈X,x∈eo W):inC X W=X.length:=by
 unfold inC
 rw [List.filter_eq_self.2 λx M=>decide_eq_true<|h x M]
theorem inC_zero:inC X 0#64=0:=by
 unfold inC
 rw [List.length_eq_zero_iff,List.filter_eq_nil_iff]
 intro x _
 rw [listB_zero];simp
theorem inC_out(h0:0<=v)(hv:v∉X):inC X (A &&& ~~~(1#64 <<< v.toNat))=inC X A:=by
 unfold inC
 congr 1
 refine List.filter_congr λx M=>?_
 rw [decide_eq_decide,mem_minus h0]
 exact ⟨λh=>h.1,λh=>⟨h,λe=>hv<|e▸M⟩⟩
theorem inC_one(M:0<=v)(hn:X.Nodup):inC X A<=inC X (A &&& ~~~(1#64 <<< v.toNat))+1:=by
 have aa:∀X:List Int,X.Nodup->inC X A<=inC X (A &&& ~~~(1#64 <<< v.toNat))+1/\(v∉X->inC X (A &&& ~~~(1#64 <<< v.toNat))=inC X A):=λX=>by
  induction X with
  |nil=>exact λ_=>⟨by unfold inC;simp,λ_=>rfl⟩
  |cons x xs ih=>
   intro hn
   obtain ⟨h1,h2⟩:=List.nodup_cons.1 hn
   obtain ⟨i1,i2⟩:=ih h2
   refine ⟨?_,inC_out M⟩
   unfold inC at i1 i2 ⊢
   rw [List.filter_cons,List.filter_cons]
   by_cases hx:x∈eo A
   ·rw [if_pos (decide_eq_true hx)]
    by_cases e:x=v
    ·subst e
     have:=i2 h1
     rw [if_neg (by simp [mem_minus M]),List.length_cons];omega
    rw [if_pos (decide_eq_true<|(mem_minus M).2 ⟨hx,e⟩),List.length_cons,List.length_cons];omega
   rw [if_neg (by simp [hx]),if_neg<|by simp [mem_minus M,hx]]
   exact i1
 exact (aa X hn).1
structure TakeI (rows:List (BitVec 64)) (W A A1 F:BitVec 64):Prop where
 sub:∀x∈eo F,x∈eo A1
 sub2:∀x∈eo A1,x∈eo A
 lt:(F=A/\A1=A)\/(eo A1).length<(eo A).length
 clq:∀X,ClqIn rows W X->inC X A1=inC X A\/(inC X A<=inC X A1+1/\∀x∈X,x∉eo F)
theorem TakeI.start(rows:List (BitVec 64))(W A:BitVec 64):TakeI rows W A A A:=⟨λ_ h=>h,λ_ h=>h,.inl ⟨rfl,rfl⟩,λ_ _=> .inl rfl⟩
theorem TakeI.step(hS:SymB n rows)(hW:∀x∈eo W,x<n)(h:TakeI rows W A A1 F)(hv:v∈eo F):TakeI rows W A (A1 &&& ~~~(1#64 <<< v.toNat)) (F &&& ~~~(1#64 <<< v.toNat ||| e_ rows v)):=by
 have h0:=(listB_lt hv).1
 have hF:∀x,x∈eo (F &&& ~~~(1#64 <<< v.toNat ||| e_ rows v))->x∈eo F/\x≠v/\x∉eo (e_ rows v):=λx M=>by
  have hr:=listB_lt M
  rw [mem_listB,BitVec.getLsbD_and,BitVec.getLsbD_not,BitVec.getLsbD_or,getLsb_shl _ _<|by omega,Bool.and_eq_true,Bool.and_eq_true,Bool.not_eq_true',Bool.or_eq_false_iff] at M
  refine ⟨mem_listB.2 ⟨M.1,M.2.1⟩,λe=>?_,λhm=>?_⟩
  ·subst e
   have:=M.2.2.2.1
   simp at this
  have:=M.2.2.2.2
  rw [mem_listB] at hm
  rw [hm.2] at this;cases this
 have ab:=h.sub v hv
 refine ⟨λx M=>?_,λx M=>h.sub2 x ((mem_minus h0).1 M).1,.inr ?_,λX hX=>?_⟩
 ·obtain ⟨h1,h2,_⟩:=hF x M
  exact (mem_minus h0).2 ⟨h.sub x h1,h2⟩
 ·have h1:=listB_minus ab
  have h2:=List.Nodup.length_le_of_subset (listB_nodup A1) h.sub2
  omega
 by_cases hm:v∈X
 ·rcases h.clq X hX with h1|⟨_,h1⟩
  ·refine .inr ⟨?_,λx M aa=>?_⟩
   ·have:=inC_one (A:=A1) h0 hX.clq.nodup;omega
   obtain ⟨_,h3,h4⟩:=hF x aa
   exact h4<|hX.clq.adj hS (λy hy=>⟨(listB_lt<|hX.sub y hy).1,hW y<|hX.sub y hy⟩) hm M<|λe=>h3 e.symm
  exact absurd hv<|h1 v hm
 rw [inC_out h0 hm]
 rcases h.clq X hX with h1|⟨h1,h2⟩
 ·exact .inl h1
 exact .inr ⟨h1,λx M aa=>h2 x M (hF x aa).1⟩
structure BdI (rows:List (BitVec 64)) (W A:BitVec 64) (q:Nat):Prop where
 sub:∀x∈eo A,x∈eo W
 bd:∀X,ClqIn rows W X->X.length<=q+inC X A
 len:q+(eo A).length<=(eo W).length
theorem BdI.start(rows:List (BitVec 64))(W:BitVec 64):BdI rows W W 0:=⟨λ_ h=>h,λX M=>by rw [inC_all M.sub];omega,by omega⟩
theorem BdI.step(h:BdI rows W A q)(M:TakeI rows W A A1 0#64)(hA:A≠0#64):BdI rows W A1 (q+1)/\(eo A1).length<(eo A).length:=by
 have hlt:(eo A1).length<(eo A).length:=by
  rcases M.lt with ⟨e,_⟩|h1
  ·exact absurd e.symm hA
  exact h1
 refine ⟨⟨λx hx=>h.sub x<|M.sub2 x hx,λX hX=>?_,by have:=h.len;omega⟩,hlt⟩
 have h1:=h.bd X hX
 rcases M.clq X hX with h2|⟨h2,_⟩<;>omega
theorem BdI.done(h:BdI rows W 0#64 q):∀X,ClqIn rows W X->X.length<=q:=λX M=>by
 have:=h.bd X M
 rw [inC_zero] at this;omega
structure GrowR (rows:List (BitVec 64)) (W:BitVec 64) (size b b':Int):Prop where
 le:b<=b'
 all:∀X,ClqIn rows W X->size+X.length<=b'
 real:b'=b\/∃X,ClqIn rows W X/\b'=size+X.length
structure SrchI (rows:List (BitVec 64)) (W A:BitVec 64) (size b b1:Int):Prop where
 le:b<=b1/\size<=b1
 sub:∀x∈eo A,x∈eo W
 all:∀X,ClqIn rows W X->size+X.length<=b1\/ClqIn rows A X
 real:b1=b\/∃X,ClqIn rows W X/\b1=size+X.length
theorem SrchI.start(rows:List (BitVec 64))(W:BitVec 64)(size b:Int):SrchI rows W W size b (max b size):=
 ⟨by omega,λ_ h=>h,λX M=> .inr M,by
  by_cases h:size<=b
  ·exact .inl<|by omega
  exact .inr ⟨[],ClqIn.nil _ _,by simp;omega⟩⟩
theorem SrchI.stop(h:SrchI rows W A size b b1)(M:∀X,ClqIn rows A X->size+X.length<=b1):GrowR rows W size b b1:=
 ⟨h.le.1,λX hX=>(h.all X hX).elim id (M X),h.real⟩
theorem SrchI.ones(h:SrchI rows W A size b b1)(hq:size+((eo A).length:Int)<=b1):GrowR rows W size b b1:=h.stop λX M=>by
 have:=M.len;omega
theorem SrchI.step{b2:Int}(h:SrchI rows W A size b b1)(hm:v∈eo A)(hv:∀u∈eo A,v<=u)(M:GrowR rows ((A &&& ~~~(1#64 <<< v.toNat)) &&& e_ rows v) (size+1) b1 b2):SrchI rows W (A &&& ~~~(1#64 <<< v.toNat)) size b b2:=by
 have h0:=(listB_lt hm).1
 have aa:=M.le
 refine ⟨⟨by have:=h.le;omega,by have:=h.le;omega⟩,λx hx=>h.sub x ((mem_minus h0).1 hx).1,λX hX=>?_,?_⟩
 ·rcases h.all X hX with h1|h1
  ·exact .inl<|by omega
  rcases h1.split hm hv with ⟨Y,rfl,hY⟩|h2
  ·have:=M.all Y hY
   refine .inl ?_
   rw [List.length_cons];omega
  exact .inr h2
 rcases M.real with e|⟨Y,hY,e⟩
 ·rw [e];exact h.real
 refine .inr ⟨v::Y,(hY.cons hm hv).mono h.sub,?_⟩
 rw [List.length_cons,e];omega
def Lx(X Z:List Int):Prop:=X=Z\/∃p x z r s,X=p++x::r/\Z=p++z::s/\x<z
theorem Lx.antisymm:∀{X Z:List Int},Lx X Z->Lx Z X->X=Z:=fun {X Z} h1 h2=>by
 rcases h1 with h1|⟨p,x,z,r,s,rfl,rfl,hlt⟩
 ·exact h1
 rcases h2 with h2|⟨M,x',z',r',s',e1,e2,aa⟩
 ·exact h2.symm
 exfalso
 have ab:∀(p M:List Int) (x z x' z':Int) (r s r' s':List Int),p++z::s=M++x'::r'->p++x::r=M++z'::s'->x<z->x'<z'->False:=by
  intro p
  induction p with
  |nil=>
   intro M x z x' z' r s r' s' e1 e2 h1 h2
   cases M with
   |nil=>
    simp only [List.nil_append,List.cons.injEq] at e1 e2
    omega
   |cons a M=>
    simp only [List.nil_append,List.cons_append,List.cons.injEq] at e1 e2
    omega
  |cons a p ih=>
   intro M x z x' z' r s r' s' e1 e2 h1 h2
   cases M with
   |nil=>
    simp only [List.nil_append,List.cons_append,List.cons.injEq] at e1 e2
    omega
   |cons a' M=>
    simp only [List.cons_append,List.cons.injEq] at e1 e2
    exact ih M x z x' z' r s r' s' e1.2 e2.2 h1 h2
 exact ab p M x z x' z' r s r' s' e1 e2 hlt aa
structure MaxClR (rows:List (BitVec 64)) (W:BitVec 64) (X:List Int):Prop where
 clq:ClqIn rows W X
 max:∀Z,ClqIn rows W Z->Z.length<=X.length
 first:∀Z,ClqIn rows W Z->Z.length=X.length->Lx X Z
theorem MaxClR.uniq{X Z:List Int}(h:MaxClR rows W X)(M:MaxClR rows W Z):X=Z:=by
 have h1:=h.max Z M.clq
 have h2:=M.max X h.clq
 exact (h.first Z M.clq<|by omega).antisymm (M.first X h.clq<|by omega)
structure PickI (rows:List (BitVec 64)) (W A:BitVec 64) (out:List Int) (left:Nat):Prop where
 join:∀Y,ClqIn rows A Y->ClqIn rows W (out++Y)
 some:∃Y,ClqIn rows A Y/\Y.length=left
 max:∀Z,ClqIn rows W Z->Z.length<=out.length+left
 most:∀Y,ClqIn rows A Y->Y.length<=left
 first:∀Z,ClqIn rows W Z->Z.length=out.length+left->(∃Y,ClqIn rows A Y/\Z=out++Y)\/∃p x z r s,out=p++x::r/\Z=p++z::s/\x<z
theorem PickI.start{m:Nat}(h1:∃Y,ClqIn rows W Y/\Y.length=m)(M:∀Y,ClqIn rows W Y->Y.length<=m):PickI rows W W [] m:=
 ⟨λY h=>h,h1,λZ h=>by have:=M Z h;simp;omega,M,λZ h _=> .inl ⟨Z,h,rfl⟩⟩
theorem PickI.done(h:PickI rows W A out 0):MaxClR rows W out:=by
 have hc:=h.join [] (ClqIn.nil _ _)
 rw [List.append_nil] at hc
 refine ⟨hc,λZ M=>by have:=h.max Z M;omega,λZ M hl=>?_⟩
 rcases h.first Z M (by omega) with ⟨Y,_,rfl⟩|⟨p,x,z,r,s,e1,e2,hlt⟩
 ·rw [List.length_append] at hl
  have:Y=[]:=List.length_eq_zero_iff.1 (by omega)
  subst this
  exact .inl (List.append_nil _).symm
 exact .inr ⟨p,x,z,r,s,e1,e2,hlt⟩
structure ScanI (rows:List (BitVec 64)) (A M:BitVec 64) (left:Nat):Prop where
 sub:∀x∈eo M,x∈eo A
 all:∀Y,ClqIn rows A Y->Y.length=left->ClqIn rows M Y
theorem ScanI.start(rows:List (BitVec 64))(A:BitVec 64)(left:Nat):ScanI rows A A left:=⟨λ_ h=>h,λ_ h _=>h⟩
theorem ScanI.ne(h:ScanI rows A M left)(hp:PickI rows W A out left)(hl:0<left):M≠0#64:=λe=>by
 subst e
 obtain ⟨Y,hY,aa⟩:=hp.some
 have:=(h.all Y hY aa).zero
 subst this
 simp at aa;omega
theorem ScanI.skip(h:ScanI rows A M left)(hm:v∈eo M)(hv:∀u∈eo M,v<=u)(aa:∀Y,ClqIn rows ((M &&& ~~~(1#64 <<< v.toNat)) &&& e_ rows v) Y->Y.length+1<left):ScanI rows A (M &&& ~~~(1#64 <<< v.toNat)) left:=by
 have h0:=(listB_lt hm).1
 refine ⟨λx hx=>h.sub x ((mem_minus h0).1 hx).1,λY hY hl=>?_⟩
 rcases (h.all Y hY hl).split hm hv with ⟨Z,rfl,hZ⟩|h2
 ·have:=aa Z hZ
  rw [List.length_cons] at hl;omega
 exact h2
theorem ScanI.take(h:ScanI rows A M left)(hp:PickI rows W A out left)(hl:0<left)(hm:v∈eo M)(hv:∀u∈eo M,v<=u)(ad:∃Y,ClqIn rows ((M &&& ~~~(1#64 <<< v.toNat)) &&& e_ rows v) Y/\left<=Y.length+1):PickI rows W ((M &&& ~~~(1#64 <<< v.toNat)) &&& e_ rows v) (out++[v]) (left - 1):=by
 have up:∀Y,ClqIn rows ((M &&& ~~~(1#64 <<< v.toNat)) &&& e_ rows v) Y->ClqIn rows A (v::Y):=λY hY=>(hY.cons hm hv).mono h.sub
 have aa:∀Y,ClqIn rows ((M &&& ~~~(1#64 <<< v.toNat)) &&& e_ rows v) Y->Y.length<=left - 1:=λY hY=>by
  have:=hp.most _ (up Y hY)
  rw [List.length_cons] at this;omega
 refine ⟨λY hY=>?_,?_,λZ hZ=>?_,aa,λZ hZ ab=>?_⟩
 ·have:=hp.join _ (up Y hY)
  rwa [List.append_assoc]
 ·obtain ⟨Y,hY,ai⟩:=ad
  exact ⟨Y,hY,by have:=aa Y hY;omega⟩
 ·have:=hp.max Z hZ
  rw [List.length_append,List.length_singleton];omega
 rw [List.length_append,List.length_singleton] at ab
 rcases hp.first Z hZ (by omega) with ⟨Y,hY,rfl⟩|⟨p,x,z,r,s,e1,e2,hlt⟩
 ·rw [List.length_append] at ab
  have ae:=h.all Y hY (by omega)
  rcases ae.split hm hv with ⟨Y',rfl,ah⟩|h2
  ·exact .inl ⟨Y',ah,by rw [List.append_assoc];rfl⟩
  cases Y with
  |nil=>rw [List.length_nil] at ab;omega
  |cons y Y'=>
   have h0:=(listB_lt hm).1
   have h3:=(mem_minus h0).1 (h2.sub y List.mem_cons_self)
   have h4:=hv y h3.1
   exact .inr ⟨out,v,y,[],Y',rfl,rfl,by omega⟩
 exact .inr ⟨p,x,z,r++[v],s,by rw [e1,List.append_assoc];rfl,e2,hlt⟩
end
end Go.Sl
namespace Go.Sl
open Go.Proofs
set_option maxRecDepth 4000
variable{ra:Option Addr}{ba bb bs n rc:Nat}{rows:List (BitVec 64)}{Wq:BitVec 64}
variable {κ:Ctx}{I:List Item}
attribute [local irreducible] W G V D A Runs Eff
theorem CMasks_ok{nd:Int}{va:Value}{es:List Pt}(hl:Sl κ I va es)(hG:GrOk nd es):eu prog κ 125 [.agg #[e7 nd,va]] I (λr J=>∃a c,r = .slice a (ek nd es).length c/\J=vc 152 (.slice a (ek nd es).length c) (ek nd es)::I):=by
 refine Bu hl.le λai=>?_
 have aj:=hG.rng
 refine Ce1 Tryz.func125 C C ?_
 refine Ar<|Ge1 (Al (cs:=[_,_]) C C C) λb1=>Z ?_
 refine Ge2 (Cj (α:=(BitVec 64)) (n:=nd.toNat) Cl ty152 C C C om om dc C) λad M=>Z ?_
 have ah:(List.replicate nd.toNat (default:(BitVec 64))).length=nd.toNat:=List.length_replicate
 refine Z ?_
 refine D7 (σ:=Nat×(List<|BitVec 64)) (λs=>[(12,e7 ((s.1:Nat):Int))]) (λs=>[vc 152 (.slice ad (List.replicate nd.toNat (default:(BitVec 64))).length M) (s.2)]) (λs=>(s.1<=es.length)/\(s.2=ek nd (es.take s.1))/\(s.2.length=nd.toNat)) (λs=>es.length - s.1) (0,List.replicate nd.toNat (default:(BitVec 64))) ⟨om,(by unfold ek rows0;rw [show (min (max nd 0) 64).toNat=nd.toNat by omega];rfl),(by simp)⟩ ?_
 rintro ⟨k,rows⟩ hp
 dsimp only at hp ⊢
 obtain ⟨hk,hr,ae⟩:=hp
 have ak:=λh:k<es.length=>hG.at h
 refine Z ?_
 refine Ap C (λc13=>Z ?_)<|λc13=>Z ?_
 ·refine Ge1 (Am ty95 C) λb4=>Ge0 (Cf ty95) ?_
  refine As<|A5<|A4 mixed<|Cr 10<|Z ?_
  refine Dr 7 C (Es (a:=1#64) C C om om)<|Dr 8 C (Ey (a:=(e_ rows<|(e_ es k).u)) (b:=(1#64) <<< ((e_ es k).v).toNat) C C)<|Z ?_
  refine C3 kr ?_
  refine Ae 10 C (Ci (α:=(BitVec 64)) (xs:=rows) (e:=152) (new:=(e_ rows<|(e_ es k).u) ||| ((1#64) <<< ((e_ es k).v).toNat)) ty152 C C C om oo am) ?_
  rintro _ _ ⟨rfl,rfl⟩
  refine C4 kr<|Z ?_
  refine A4 mixed<|Cr 10<|Z ?_
  refine Dr 7 C (Es (a:=1#64) C C om om)<|Dr 8 C (Ey (a:=(e_ (List.set rows ((e_ es k).u).toNat ((e_ rows<|(e_ es k).u) ||| ((1#64) <<< ((e_ es k).v).toNat)))<|(e_ es k).v)) (b:=(1#64) <<< ((e_ es k).u).toNat) C C)<|Z ?_
  refine C3 kr ?_
  refine Ae 10 C (Ci (α:=(BitVec 64)) (xs:=List.set rows ((e_ es k).u).toNat ((e_ rows<|(e_ es k).u) ||| ((1#64) <<< ((e_ es k).v).toNat))) (e:=152) (new:=(e_ (List.set rows ((e_ es k).u).toNat ((e_ rows<|(e_ es k).u) ||| ((1#64) <<< ((e_ es k).v).toNat)))<|(e_ es k).v) ||| ((1#64) <<< ((e_ es k).u).toNat)) ty152 C C C om oo am) ?_
  rintro _ _ ⟨rfl,rfl⟩
  refine C4 kr<|Z ?_
  have ab:List.set (List.set rows ((e_ es k).u).toNat ((e_ rows<|(e_ es k).u) ||| ((1#64) <<< ((e_ es k).v).toNat))) ((e_ es k).v).toNat ((e_ (List.set rows ((e_ es k).u).toNat ((e_ rows<|(e_ es k).u) ||| ((1#64) <<< ((e_ es k).v).toNat)))<|(e_ es k).v) ||| ((1#64) <<< ((e_ es k).u).toNat))=addRow rows (e_ es k):=by unfold addRow;rw [if_pos om]
  rw [ab]
  exact B5 ((k+1),(addRow rows<|e_ es k))<|by dsimp only;exact ⟨om,(by rw [rowsB_take om,←hr]),(by rw [addRow_len];exact ae)⟩
 rw [List.take_of_length_le om] at hr
 subst hr
 have aa:(ek nd es).length=(List.replicate nd.toNat (default:(BitVec 64))).length:=by omega
 exact Ai C C (vc 152 (.slice ad (ek nd es).length M) (ek nd es)::I) (by rw [aa];exact Aj) ⟨_,_,by rw [aa],rfl⟩
theorem free_lt{F G:BitVec 64}{v:Int}(hv:v∈eo F):(eo (F &&& ~~~(1#64 <<< v.toNat ||| G))).length<(eo F).length:=by
 have h0:=(Fo hv).1
 have h1:=listB_minus hv
 have h2:(eo<|F &&& ~~~(1#64 <<< v.toNat ||| G)).length<=(eo<|F &&& ~~~(1#64 <<< v.toNat)).length:=by
  refine List.Nodup.length_le_of_subset (Dq _) λx M=>?_
  rw [Ed,BitVec.getLsbD_and,BitVec.getLsbD_not,BitVec.getLsbD_or,Bool.and_eq_true,Bool.and_eq_true,Bool.not_eq_true',Bool.or_eq_false_iff] at M
  rw [Ed,BitVec.getLsbD_and,BitVec.getLsbD_not,Bool.and_eq_true,Bool.and_eq_true,Bool.not_eq_true']
  exact ⟨M.1,M.2.1,M.2.2.1,M.2.2.2.1⟩
 omega
theorem CBound_ok(hr:Sl κ I (.slice ra rows.length rc) rows)(hS:SymB n rows)(hW:∀x∈eo Wq,x<n)(hT:TabRd κ I 0 tzCells):eu prog κ 198 [.slice ra rows.length rc,U64 Wq] I (λr J=>∃q:Nat,r=e7 ((q:Nat):Int)/\(∀X,ClqIn rows Wq X->X.length<=q)/\q<=(eo Wq).length/\I=J):=by
 have an:=hS.len
 refine Ce2 Tryz.func198 C C<|Z ?_
 refine D7 (σ:=(BitVec 64)×Nat) (λs=>[(1,U64<|s.1),(5,e7 ((s.2:Nat):Int))]) (λ_=>[]) (λs=>(BdI rows Wq s.1 s.2)) (λs=>(eo s.1).length) (Wq,0) (BdI.start rows Wq) ?_
 rintro ⟨Aq,q⟩ hp
 dsimp only at hp ⊢
 have hB:=hp
 have aj:q<=64:=by have h1:=hB.len;have h2:=Ee Wq;omega
 refine A5<|Ar<|Gm C<|Gr (Eo (a:=Aq) (b:=0#64) C C)<|As<|Ap C (λc9=>Z ?_)<|λc9=>Z ?_
 ·refine D7 (σ:=(BitVec 64)×(BitVec 64)) (λs=>[(1,U64<|s.2),(6,U64<|s.1)]) (λ_=>[]) (λs=>(TakeI rows Wq Aq s.2 s.1)) (λs=>(eo s.1).length) (Aq,Aq) (TakeI.start rows Wq Aq) ?_
  rintro ⟨F,A1⟩ hp
  dsimp only at hp ⊢
  have M:=hp
  refine A5<|Ar<|Gm C<|Gr (Eo (a:=F) (b:=0#64) C C)<|As<|Ap C (λab=>Z ?_)<|λab=>Z ?_
  ·refine G.e (Ac c_ C C<|Tz_ok F<|A8 hT Ah) ?_
   rintro _ _ ⟨_,_,⟨rfl,rfl⟩,rfl,rfl⟩
   refine Z ?_
   have ad:=tzB_le (m:=F) ab
   generalize hvE:tzB F=v at ad ⊢
   obtain ⟨aa,ao⟩:=ad
   have ak:=Fo aa
   have ap:=hW v (hB.sub v<|M.sub2 v<|M.sub v aa)
   refine Z ?_
   refine Gr (Es (a:=1#64) C C om om)<|Gr (D1 (a:=A1) (b:=(1#64) <<< (v).toNat) C C)<|Z ?_
   refine A4 mixed<|Cm I 10<|Z ?_
   refine Dr 2 C (Es (a:=1#64) C C om om)<|Z ?_
   refine Dr 7 C (Ey (a:=(1#64) <<< (v).toNat) (b:=(e_ rows v)) C C)<|Dr 8 C (D1 (a:=F) (b:=((1#64) <<< (v).toNat) ||| (e_ rows v)) C C)<|Z ?_
   exact B5 ((F &&& ~~~(((1#64) <<< (v).toNat) ||| (e_ rows v))),(A1 &&& ~~~((1#64) <<< (v).toNat))) (by dsimp only;exact (M.step hS hW aa)) (hlt:=by (try dsimp only);exact (free_lt aa))
  have ai:F=0#64:=Classical.not_not.1 ab
  subst ai
  obtain ⟨ae,aq⟩:=hB.step M c9
  exact B5 ((A1),(q+1))<|by dsimp only;exact ae
 have ah:Aq=0#64:=Classical.not_not.1 c9
 subst ah
 exact Ai C C I Ah ⟨q,rfl,hB.done,by have:=hB.len;omega,rfl⟩
def GrowC(κ:Ctx)(bb ba bs:Nat)(ra:Option Addr)(rc n:Nat)(rows:List (BitVec 64))(N:Nat):Prop:=
 ∀(I:List Item) (Wq:BitVec 64) (size b:Int),Sl κ I (.slice ra rows.length rc) rows->(eo Wq).length<=N->(∀x∈eo Wq,x<n)->(0<=size/\size+(eo Wq).length<=64)->TabRd κ I 0 tzCells->
  eu prog κ 197 [U64 Wq,e7 size,.pointer<|some ⟨bb,0,none⟩,.pointer<|some ⟨ba,0,none⟩,.pointer<|some ⟨bs,0,none⟩] (e8 bb [e7 b] 3::e8 ba [.slice ra rows.length rc] 157::e8 bs [.func (.func 197) #[] #[.pointer (some ⟨bb,0,none⟩),.pointer<|some ⟨ba,0,none⟩,.pointer<|some ⟨bs,0,none⟩]] 228::I) (λr J=>∃b':Int,r = .tuple #[]/\GrowR rows Wq size b b'/\(b'<=b\/b'<=64)/\J=e8 bb [e7 (b')] 3::e8 ba [.slice ra rows.length rc] 157::e8 bs [.func (.func 197) #[] #[.pointer (some ⟨bb,0,none⟩),.pointer<|some ⟨ba,0,none⟩,.pointer<|some ⟨bs,0,none⟩]] 228::I)
theorem Grow_step(hr:Sl κ I (.slice ra rows.length rc) rows)(hS:SymB n rows){size b:Int}(ih:1<=(eo Wq).length->GrowC κ bb ba bs ra rc n rows ((eo Wq).length - 1))(hW:∀x∈eo Wq,x<n)(a0:0<=size/\size+(eo Wq).length<=64)(hT:TabRd κ I 0 tzCells):eu prog κ 197 [U64 Wq,e7 size,.pointer (some ⟨bb,0,none⟩),.pointer (some ⟨ba,0,none⟩),.pointer (some ⟨bs,0,none⟩)] (e8 bb [e7 b] 3::e8 ba [.slice ra rows.length rc] 157::e8 bs [.func (.func 197) #[] #[.pointer (some ⟨bb,0,none⟩),.pointer (some ⟨ba,0,none⟩),.pointer (some ⟨bs,0,none⟩)]] 228::I) (λr J=>∃b':Int,r = .tuple #[]/\GrowR rows Wq size b b'/\(b'<=b\/b'<=64)/\J=e8 bb [e7 (b')] 3::e8 ba [.slice ra rows.length rc] 157::e8 bs [.func (.func 197) #[] #[.pointer (some ⟨bb,0,none⟩),.pointer (some ⟨ba,0,none⟩),.pointer (some ⟨bs,0,none⟩)]] 228::I):=by
 have aw:=hS.len
 refine Ce5 Tryz.func197 C C ?_
 refine W.scope0 (l:=0) C<|Z ?_
 have ar:(if b<size then size else b)=max b size:=by split<;>omega
 rw [ar]
 refine Ge0 (A3 (cs:=[_]) (vs:=[_]) (cs':=[_]) ef) ?_
 refine As<|A5<|W.label ?_
 refine Ay<|Bk<|D7 (σ:=(BitVec 64)×Int) (λs=>[(0,U64<|s.1)]) (λs=>[e8 bb [e7 (s.2)] 3]) (λs=>(SrchI rows Wq s.1 size b s.2)/\(s.2<=b\/s.2<=64)) (λs=>(eo s.1).length) (Wq,max b size) ⟨(SrchI.start rows Wq size b),om⟩ ?_
 rintro ⟨Aq,b1⟩ hp
 dsimp only at hp ⊢
 obtain ⟨M,ah⟩:=hp
 have ax:=ones_pop Aq
 have a1:=List.Nodup.length_le_of_subset (Dq Aq) M.sub
 refine A5<|Ar<|Gm C<|Gr (Eo (a:=Aq) (b:=0#64) C C)<|As<|Ap C (λc12=>Z ?_)<|λc12=>Z ?_
 ·refine A4 mixed (Cr 15<|Z ?_)
  refine Ds1 2<|Sc0 C (Ac c_ C C<|OnesCount_ok Aq)<|Z ?_
  refine Du (d:=19) C (λad=>?_)<|λad=>?_
  ·refine Dpo 7 C (Dpo 8 C<|Dpo 9 C<|Dpo 12 C<|Dpo 10 C<|Z ?_)
   refine V.jump_normal ?_
   exact V.end0 C (e8 bb [e7 b1] 3::e8 ba [.slice ra rows.length rc] 157::e8 bs [.func (.func 197) #[] #[.pointer (some ⟨bb,0,none⟩),.pointer<|some ⟨ba,0,none⟩,.pointer<|some ⟨bs,0,none⟩]] 228::I) Bb ⟨b1,rfl,(by first|exact M.ones (by rw [←ones_pop];exact ad)|exact M.stop (λX hX=>by have:=hbqb X hX;omega)|exact M.stop (λX hX=>by have aa:Aq=0#64:=Classical.not_not.1 c12;subst aa;rw [hX.zero];have:=M.le;simp;omega)),ah,rfl⟩
  refine Dro 7 C (Af C)<|Z ?_
  refine Ds1 10<|Se C (Ac c_ C C<|CBound_ok (Au hr) hS (Wq:=Aq) (λx hx=>hW x<|M.sub x hx)<|A8 hT Ah) ?_
  rintro _ _ ⟨_,_,⟨ay,rfl,ab,ap,rfl⟩,rfl,rfl⟩
  refine ⟨Ah,?_⟩
  refine Z ?_
  refine Ap C (λan=>Z ?_)<|λan=>Z ?_
  ·refine V.jump_normal ?_
   exact V.end0 C (e8 bb [e7 b1] 3::e8 ba [.slice ra rows.length rc] 157::e8 bs [.func (.func 197) #[] #[.pointer (some ⟨bb,0,none⟩),.pointer<|some ⟨ba,0,none⟩,.pointer<|some ⟨bs,0,none⟩]] 228::I) Bb ⟨b1,rfl,(by first|exact M.ones (by rw [←ones_pop];exact ad)|exact M.stop (λX hX=>by have:=ab X hX;omega)|exact M.stop (λX hX=>by have aa:Aq=0#64:=Classical.not_not.1 c12;subst aa;rw [hX.zero];have:=M.le;simp;omega)),ah,rfl⟩
  refine G.e (Ac c_ C C<|Tz_ok Aq<|A8 hT Ah) ?_
  rintro _ _ ⟨_,_,⟨rfl,rfl⟩,rfl,rfl⟩
  refine Z ?_
  have ai:=tzB_le (m:=Aq) c12
  generalize hvE:tzB Aq=v at ai ⊢
  obtain ⟨ae,aq⟩:=ai
  have ak:=Fo ae
  have az:=hW v (M.sub v ae)
  have av:=listB_minus ae
  have a3:=List.Nodup.length_le_of_subset (Dq Aq) M.sub
  have a4:=List.Nodup.length_le_of_subset (Dq<|(Aq &&& ~~~(1#64 <<< v.toNat)) &&& e_ rows v) (l₂:=eo (Aq &&& ~~~(1#64 <<< v.toNat))) (λx hx=>(mem_andB.1 hx).1)
  refine Z ?_
  refine Gr (Es (a:=1#64) C C om om)<|Gr (D1 (a:=Aq) (b:=(1#64) <<< (v).toNat) C C)<|Z ?_
  refine A4 mixed<|Cm (e8 ba [.slice ra rows.length rc] 157::e8 bs [.func (.func 197) #[] #[.pointer (some ⟨bb,0,none⟩),.pointer<|some ⟨ba,0,none⟩,.pointer<|some ⟨bs,0,none⟩]] 228::I) 10<|Z ?_
  refine Dr 6 C (Cz (a:=Aq &&& ~~~((1#64) <<< (v).toNat)) (b:=(e_ rows v)) C C)<|Z ?_
  refine Ds1 9<|Se C (Cu (first:=[]) (caps:=[.pointer (some ⟨bb,0,none⟩),.pointer<|some ⟨ba,0,none⟩,.pointer<|some ⟨bs,0,none⟩]) c_ C C C<|Cv (show Fit κ _ (e8 bb [e7 b1] 3::e8 ba [.slice ra rows.length rc] 157::e8 bs [.func (.func 197) #[] #[.pointer (some ⟨bb,0,none⟩),.pointer<|some ⟨ba,0,none⟩,.pointer<|some ⟨bs,0,none⟩]] 228::I) from Bb)<|(ih om) I ((Aq &&& ~~~((1#64) <<< (v).toNat)) &&& (e_ rows v)) (size+1) b1 (Au hr) om (λx hx=>hW x<|M.sub x ((mem_minus ak.1).1 (mem_andB.1 hx).1).1) om<|A8 hT Ah) ?_
  rintro _ _ ⟨_,_,⟨aj,rfl,au,ao,rfl⟩,rfl,rfl⟩
  refine ⟨Aj,?_⟩
  exact Dz<|Av<|B5 ((Aq &&& ~~~((1#64) <<< (v).toNat)),(aj))<|by dsimp only;exact ⟨(M.step ae aq asm),om⟩
 refine V.jump_normal ?_
 exact V.end0 C (e8 bb [e7 b1] 3::e8 ba [.slice ra rows.length rc] 157::e8 bs [.func (.func 197) #[] #[.pointer (some ⟨bb,0,none⟩),.pointer<|some ⟨ba,0,none⟩,.pointer<|some ⟨bs,0,none⟩]] 228::I) Bb ⟨b1,rfl,(by first|exact M.ones (by rw [←ones_pop];exact ad)|exact M.stop (λX hX=>by have:=ab X hX;omega)|exact M.stop (λX hX=>by have aa:Aq=0#64:=Classical.not_not.1 c12;subst aa;rw [hX.zero];have:=M.le;simp;omega)),ah,rfl⟩
theorem grow_all{κ:Ctx}(hS:SymB n rows):∀N,GrowC κ bb ba bs ra rc n rows N:=λN=>by
 induction N with
 |zero=>exact λI Wq size b hr hN hW hs hT=>Grow_step hr hS (λh=>absurd h om) hW hs hT
 |succ N ih=>exact λI Wq size b hr hN hW hs hT=>Grow_step hr hS (λh=>λI' Wq' M b' aa ab=>ih I' Wq' M b' aa om) hW hs hT
structure LongR (rows:List (BitVec 64)) (Wq:BitVec 64) (least m:Int):Prop where
 le:least<=m
 all:∀X,ClqIn rows Wq X->(X.length:Int)<=m
 real:m=least\/∃X,ClqIn rows Wq X/\m=X.length
theorem Longest_ok(hr:Sl κ I (.slice ra rows.length rc) rows)(hS:SymB n rows){least:Int}(hW:∀x∈eo Wq,x<n)(hT:TabRd κ I 0 tzCells):eu prog κ 126 [.slice ra rows.length rc,U64 Wq,e7 least] I (λr J=>∃m:Int,r=e7 m/\LongR rows Wq least m/\(m<=least\/m<=64)/\I=J):=by
 refine Ce3 Tryz.func126 C C ?_
 refine Ar<|Ge1 (Al (cs:=[_]) C C C) λb1=>Z ?_
 refine Ge1 (Am ef C) λb2=>Ge0 (A3 (cs:=[_]) (vs:=[_]) (cs':=[_]) ef) ?_
 refine As<|Ar<|Ge1 (Am ty228 C) λb3=>As<|Ar<|Gr (Ec C C)<|Ge0 (A3 (cs:=[_]) (vs:=[_]) (cs':=[_]) ty228)<|Z ?_
 refine G.e (Cu (first:=[]) (caps:=[.pointer (some ⟨b2,0,none⟩),.pointer<|some ⟨b1,0,none⟩,.pointer<|some ⟨b3,0,none⟩]) c_ C C C<|Cv Bb<|grow_all hS (eo Wq).length I Wq 0 least (Au hr) (Nat.le_refl _) hW (by have:=Ee Wq;omega) (A8 hT Ah)) ?_
 rintro _ _ ⟨_,_,⟨aa,rfl,M,ab,rfl⟩,rfl,rfl⟩
 refine Z ?_
 exact Ai C C I Ah ⟨aa,rfl,⟨M.le,λX hX=>by have:=M.all X hX;omega,M.real.imp id λ⟨X,h1,h2⟩=>⟨X,h1,by omega⟩⟩,ab,rfl⟩
end Go.Sl
namespace Go.Sl
open Go.Proofs
set_option maxRecDepth 4000
variable{rows:List (BitVec 64)}{M:BitVec 64}{nd v:Int}{es:List Pt}{l:List Int}
theorem LongR.pick{Wq:BitVec 64}{m:Int}(h:LongR rows Wq 0 m):PickI rows Wq Wq [] m.toNat:=PickI.start (by
  rcases h.real with e|⟨X,hX,e⟩
  ·exact ⟨[],ClqIn.nil _ _,by simp;omega⟩
  exact ⟨X,hX,by omega⟩) λY M=>by have:=h.all Y M;omega
theorem ScanI.next{Aq:BitVec 64}{left:Nat}(h:ScanI rows Aq (M &&& ~~~(1#64 <<< v.toNat)) left)(hv:0<=v)(aa:eo M=v::eo (M &&& (M - 1#64))):ScanI rows Aq (M &&& (M - 1#64)) left:=by
 have hm:∀x,x∈eo (M &&& (M - 1#64))↔x∈eo (M &&& ~~~(1#64 <<< v.toNat)):=λx=>by
  rw [mem_minus hv,aa,List.mem_cons]
  have hn:=Dq M
  rw [aa] at hn
  have h1:=(List.nodup_cons.1 hn).1
  constructor
  ·exact λhx=>⟨.inr hx,λe=>h1<|e▸hx⟩
  rintro ⟨rfl|hx,h2⟩
  ·exact absurd rfl h2
  exact hx
 exact ⟨λx hx=>h.sub x<|(hm x).1 hx,λY hY hl=>⟨hY.clq,λx hx=>(hm x).2 ((h.all Y hY hl).sub x hx)⟩⟩
theorem scan_lt(aa:eo M=v::eo (M &&& (M - 1#64))):(eo (M &&& (M - 1#64))).length<(eo M).length:=by rw [aa,List.length_cons];omega
def bestCl(nd:Int)(es:List Pt)(X:List Int):Prop:=MaxClR (ek nd es) (allB nd) X
theorem CBest_ok{κ:Ctx}{I:List Item}{va:Value}(hl:Sl κ I va es)(hG:GrOk nd es)(bi:nd<=63)(hT:TabRd κ I 0 tzCells):eu prog κ 69 [.agg #[e7 nd,va]] I (λr J=>∃a c X,r = .tuple #[.slice a (X:List Int).length c,e7 0]/\bestCl nd es X/\J=vc 3 (.slice a X.length c) X::I):=by
 have an:=hG.rng
 have ay:=rows_sym hG
 have bb:=hG.rows.len
 have ao:∀x∈eo (allB nd),x<((ek nd es).length:Nat):=λx hx=>by have h1:=Fo hx;have h2:=all_sub an.1 an.2 x hx;omega
 refine Ce1 Tryz.func69 C C ?_
 refine Ar<|Ge1 (Al (cs:=[_,_]) C C C) λb1=>Ga C<|Ga C<|As<|A5<|Ar<|Gl2 ty56 ?_
 refine Gc0 (Ac c_ C C<|CheckGen_ok<|Au hl) ?_
 refine Ga C<|As<|Ar<|Gm C<|Gr (C9 C C)<|As<|Ap C (λa1=>?_)<|λa1=>?_
 ·exact absurd (checkG_ok.2 hG) a1
 refine Bt<|Ay<|Ar<|Gl2 ty56 ?_
 refine Gc2 (Ac c_ C C<|CMasks_ok (nd:=nd) (Au hl) hG) λaj ak=>?_
 refine Ga C<|As<|Ar<|Gf fld56_0 C<|Gl ef ?_
 refine Gr (Es (a:=1#64) C C om om)<|Gr (Runs.subB (a:=(1#64) <<< (nd).toNat) (b:=1#64) C C)<|Ga C ?_
 have a0:((1#64) <<< (nd).toNat) - (1#64)=allB nd:=by by_cases h0:nd=0;(· subst h0;decide+kernel);(· unfold allB;rw [if_neg om,if_neg om])
 rw [a0]
 refine As<|Bg (S2 6 5 C C)<|Ar<|Ga C<|As<|A5<|Ar<|Gm C<|Gm C<|G.e (Ac c_ C C<|Longest_ok A7 ay (Wq:=(allB nd)) (least:=0) (by first|exact ao|exact aq)<|A8 hT Ah) ?_
 rintro _ _ ⟨_,_,⟨ae,rfl,aa,a5,rfl⟩,rfl,rfl⟩
 refine Ga C<|As<|Bk<|Cn (σ:=(BitVec 64)×(Option Addr)×Nat×(List Int)×Int) (λs=>([(5,.slice aj (ek nd es).length ak),(6,U64<|s.1),(7,.slice s.2.1 s.2.2.2.1.length s.2.2.1),(8,e7<|s.2.2.2.2)]:Env)) (λs=>vc 3 (.slice s.2.1 s.2.2.2.1.length s.2.2.1) (s.2.2.2.1)::vc 152 (.slice aj (ek nd es).length ak) (ek nd es)::e8 b1 [e7 nd,va] 56::I) (λs=>(0<=s.2.2.2.2/\s.2.2.2.2<=64)/\(PickI (ek nd es) (allB nd) s.1 s.2.2.2.1 s.2.2.2.2.toNat)/\(∀x∈eo s.1,x<((ek nd es).length:Nat))/\(s.2.2.2.1.length<=64)) (λs=>s.2.2.2.2.toNat) (allB nd,none,0,[],ae) (show (0<=(ae:Int)/\(ae:Int)<=64)/\(PickI (ek nd es) (allB nd) (allB nd:BitVec 64) ([]:List Int) (ae:Int).toNat)/\(∀x∈eo (allB nd:BitVec 64),x<((ek nd es).length:Nat))/\(([]:List Int).length<=64) from ⟨⟨aa.le,by omega⟩,aa.pick,ao,(by simp)⟩) (Ab C<|Ab (El C<|by first|rfl|simp)<|Ab (El C<|by first|rfl|simp)<|Ab Dg Bs) (Ak (Bw (α:=Int) _ _) Bb) ?_
 rintro ⟨Aq,a,c,out,q⟩ hp
 dsimp only at hp ⊢
 obtain ⟨hq,hP,ax,bf⟩:=hp
 refine A5<|Ar<|Gm C<|Gr (Df C C)<|As<|Ap C (λa3=>?_)<|λa3=>?_
 ·refine Bt (Ay<|A5<|Bk<|Ar<|Gm C<|Ga C<|As<|Bk<|Cn (σ:=(BitVec 64)) (λs=>([(5,.slice aj (ek nd es).length ak),(6,U64 Aq),(7,.slice a out.length c),(8,e7 q),(9,U64 s)]:Env)) (λs=>vc 3 (.slice a out.length c) (out)::vc 152 (.slice aj (ek nd es).length ak) (ek nd es)::e8 b1 [e7 nd,va] 56::I) (λs=>(ScanI (ek nd es) Aq s q.toNat)) (λs=>(eo s).length) Aq (ScanI.start _ _ _) (Ab C<|Ab C<|Ab C<|Ab C<|Ab (El C<|by first|rfl|simp) Bs) Aj ?_)
  rintro M hp
  have ad:=hp
  refine A5<|Ar<|Gm C<|Gr (Eo (a:=M) (b:=0#64) C C)<|As<|Ap C (λah=>?_)<|λah=>?_
  ·refine Bt (Ay<|A5<|Bk<|Ar<|Gm C<|G.e (Ac c_ C C<|Tz_ok M<|A8 hT Ah) ?_)
   rintro _ _ ⟨_,_,⟨rfl,rfl⟩,rfl,rfl⟩
   refine Ga C ?_
   have aw:=tzB_le (m:=M) ah
   have ap:=listB_step ah
   generalize hvE:tzB M=v at aw ap ⊢
   obtain ⟨ai,av⟩:=aw
   have ar:=Fo ai
   have ba:=ad.sub v ai
   have bh:=ax v ba
   have aq:∀x∈eo ((M &&& ~~~(1#64 <<< (v).toNat)) &&& e_ (ek nd es) v),x<((ek nd es).length:Nat):=λx hx=>by have h1:=ax x (ad.sub x ((mem_minus ar.1).1 (mem_andB.1 hx).1).1);exact h1
   refine As<|A5<|A4 mixed<|Cr 10<|Dr 0 C (Af C)<|Dr 1 C (Af C)<|Dr 2 C (Es (a:=1#64) C C om om)<|Dr 3 C (D1 (a:=M) (b:=(1#64) <<< (v).toNat) C C)<|Dr 4 C (Af C)<|Dr 5 C (Af C)<|Dr 6 C (Az (α:=(BitVec 64)) (xs:=ek nd es) Cl ty152 C C A7 om om)<|Dr 7 C (Dj (α:=(BitVec 64)) (xs:=ek nd es) (u:=U64 ((e_ (ek nd es) v))) ty152 C A7 om om C)<|Dr 8 C (Cz (a:=M &&& ~~~((1#64) <<< (v).toNat)) (b:=(e_ (ek nd es) v)) C C)<|Dr 9 C (A0 C)<|Dz<|Ay<|Bg (S7 11 10 5 6 7 8 9 C C C C C C C)<|Ar<|Gm C<|Gm C<|Gm C<|Gr (Rsu C C)<|G.e (Ac c_ C C<|Longest_ok A7 ay (Wq:=((M &&& ~~~((1#64) <<< (v).toNat)) &&& (e_ (ek nd es) v))) (least:=q - 2) (by first|exact ao|exact aq)<|A8 hT Ah) ?_
   rintro _ _ ⟨_,_,⟨bc,rfl,ab,a4,rfl⟩,rfl,rfl⟩
   refine Gm C<|Gr (Rsu C C)<|Gr (Ff C C)<|As<|Bg (S8 55 11 10 5 6 7 8 9 C C C C C C C C)<|Ap C (λa7=>?_)<|λa7=>?_
   ·refine Ar (Gm C ?_)
    have az:=ad.take hP om ai av (by rcases ab.real with e|⟨Y,hY,e⟩;(· omega);(· exact ⟨Y,hY,by omega⟩))
    refine Gm C<|Ge1 (B9 (α:=Int) (cs:=[_]) (xs:=[v]) Aa ef C C dc dc C C C C) λbe=>?_
    refine Ge2 (B4 (α:=Int) (e:=3) (xs:=out) (ys:=([v]:List Int)) Aa ef C C C mm A7 lcn dc C<|λ_ _=>am) λa8 a6=>?_
    exact Gm C<|Ga C<|Ga C<|As<|Bg (S4 6 7 5 8 C C C C)<|C7<|V.block_miss C<|A9<|A9<|B3<|Av<|Ay<|Be<|Gm C<|Gr (Rsu C C)<|Ga C<|Bi<|B5 (((M &&& ~~~((1#64) <<< (v).toNat)) &&& (e_ (ek nd es) v)),(a8),(a6),(out++([v]:List Int)),(q - 1))<|by dsimp only;exact ⟨om,(by rw [show (q - 1).toNat=q.toNat - 1 by omega];exact az),aq,(by have:=(az.join []<|ClqIn.nil _ _).len;have bg:=Ee (allB nd);rw [List.append_nil] at this;omega)⟩
   refine Bt<|Av<|Ay<|Be<|Gm C<|Gm C<|Gr (Runs.subB (a:=M) (b:=1#64) C C)<|Gr (Cz (a:=M) (b:=M - (1#64)) C C)<|Ga C<|Bi ?_
   have au:=ad.skip ai av (λY hY=>by have:=ab.all Y hY;omega)
   exact B5 ((M &&& (M - (1#64)))) (au.next ar.1 ap) (hlt:=by (try dsimp only);exact (scan_lt ap))
  exact absurd (Classical.not_not.1 ah)<|ad.ne hP om
 refine C7<|A9<|A9<|B3<|Ay<|Ar<|Gm C<|Ga C<|Ga C<|As<|Bf ?_
 have a9:PickI (ek nd es) (allB nd) Aq out 0:=by rw [show (0:Nat)=q.toNat by omega];exact hP
 exact Cy C C C (vc 3 (.slice a out.length c) out::I) Bb ⟨a,c,out,rfl,a9.done,rfl⟩
theorem sumL_set{i:Int}(M:0<=i)(h:i<l.length):(l.set i.toNat v).sum=l.sum - e_ l i+v:=by
 obtain ⟨k,rfl⟩:=Int.eq_ofNat_of_zero_le M
 rw [Int.toNat_natCast]
 clear M
 induction l generalizing k with
 |nil=>simp at h;omega
 |cons x xs ih=>
  cases k with
  |zero=>simp [e_];omega
  |succ k=>
   have:=ih k (by simp at h;omega)
   have e:e_ (x::xs) ((k+1:Nat):Int)=e_ xs k:=by unfold e_;simp
   rw [e,List.set_cons_succ,List.sum_cons,List.sum_cons,this];omega
theorem sumL_rep(n:Nat):(List.replicate n (default:Int)).sum=0:=by
 induction n with
 |zero=>rfl
 |succ n ih=>rw [List.replicate_succ,List.sum_cons,ih];rfl
def triS(nd:Int)(es:List Pt):Int:=(es.map λe=>((commonG nd es e.u e.v).length:Int)).sum
def triK(nd:Int)(es:List Pt)(k:Nat):Int:=((es.take k).map λe=>((commonG nd es e.u e.v).length:Int)).sum
theorem triK_succ{k:Nat}(h:k<es.length):triK nd es (k+1)=triK nd es k+((commonG nd es (e_ es k).u (e_ es k).v).length:Int):=by
 unfold triK
 rw [Ct es k h,List.map_append,List.sum_append];simp
theorem triK_all(nd:Int)(es:List Pt):triK nd es es.length=triS nd es:=by unfold triK triS;rw [List.take_length]
theorem commonG_len(nd:Int)(es:List Pt)(u v:Int):(commonG nd es u v).length<=64:=by
 by_cases h:u=v
 ·unfold commonG;rw [if_pos h];simp
 rw [←common_eq h];exact Ee _
theorem triK_bd(nd:Int)(es:List Pt):∀k,k<=es.length->0<=triK nd es k/\triK nd es k<=64*(k:Int)
 |0,_=>by unfold triK;simp
 |k+1,h=>by
  have M:=triK_bd nd es k om
  have:=commonG_len nd es (e_ es k).u (e_ es k).v
  rw [triK_succ om];omega
theorem sum_le_all(h:∀x∈l,0<=x):∀k,k<=l.length->0<=(l.take k).sum/\(l.take k).sum<=l.sum:=by
 have aa:∀l:List Int,(∀x∈l,0<=x)->∀k,0<=(l.take k).sum/\(l.take k).sum<=l.sum:=λl=>by
  induction l with
  |nil=>intro _ k;simp
  |cons x xs ih=>
   intro h k
   have h0:=h x List.mem_cons_self
   have M:=ih λy hy=>h y (List.mem_cons_of_mem _ hy)
   cases k with
   |zero=>have:=M xs.length;rw [List.take_length] at this;simp;omega
   |succ k=>have:=M k;simp;omega
 exact λk _=>aa l h k
theorem common_rng(hG:GrOk nd es){u x:Int}(M:x∈commonG nd es u v):0<=x/\x<nd:=by
 unfold commonG at M
 split at M
 ·cases M
 have h1:=(mem_meetL.1 M).1
 unfold nbG at h1
 rw [if_neg (by rw [checkG_ok.2 hG];decide),mem_ofL,mem_nbL] at h1
 rcases h1 with h|h
 ·have:=hG.edge _ h;simp only at this;omega
 have:=hG.edge _ h;simp only at this;omega
theorem mem_le_sum:∀{l:List Int},(∀x∈l,0<=x)->∀{x:Int},x∈l->x<=l.sum
 |[],_,x,hx=>by cases hx
 |y::ys,h,x,hx=>by
  have h0:=h y List.mem_cons_self
  have M:∀z∈ys,0<=z:=λz hz=>h z (List.mem_cons_of_mem _ hz)
  have h2:=(sum_le_all M ys.length<|Nat.le_refl _)
  rw [List.take_length] at h2
  rw [List.sum_cons]
  rcases List.mem_cons.1 hx with rfl|hx
  ·omega
  have:=mem_le_sum M hx;omega
theorem triS_bd(M:GrOk nd es):0<=triS nd es/\triS nd es<=129024:=by
 have:=triK_bd nd es es.length (Nat.le_refl _)
 rw [triK_all] at this
 have:=edges_le M
 omega
end Go.Sl
namespace Go.Sl
open Go.Proofs
set_option maxRecDepth 4000
variable{xs ys:List Int}
attribute [local irreducible] W G V D A Runs Eff
def interF(xs ys:List Int):List Int:=xs.filter λx=>decide (x∈ys)
theorem head_drop(h:0<xs.length):xs=e_ xs 0::List.drop 1 xs:=by
 cases xs with
 |nil=>cases h
 |cons x xs=>rfl
theorem asc_drop(h:xs.Pairwise (λx0 M:Int=>x0<M)):(List.drop 1 xs).Pairwise (λx0 M:Int=>x0<M):=h.sublist (List.drop_sublist _ _)
theorem head_lt(h:xs.Pairwise (λx0 x1:Int=>x0<x1))(h0:0<xs.length){y:Int}(M:y∈List.drop 1 xs):e_ xs 0<y:=by
 rw [head_drop h0] at h
 exact (List.pairwise_cons.1 h).1 y M
theorem inter_lt(hy:ys.Pairwise (λx0 x1:Int=>x0<x1))(h0:0<xs.length)(h1:0<ys.length)(h:e_ xs 0<e_ ys 0):interF xs ys=interF (List.drop 1 xs) ys:=by
 have hn:e_ xs 0∉ys:=λM=>by
  rw [head_drop h1] at M
  rcases List.mem_cons.1 M with e|e
  ·omega
  have:=head_lt hy h1 e;omega
 conv=>lhs;rw [head_drop h0]
 unfold interF
 rw [List.filter_cons_of_neg (by simpa using hn)]
theorem inter_gt(hx:xs.Pairwise (λx0 x1:Int=>x0<x1))(h0:0<xs.length)(h1:0<ys.length)(h:e_ ys 0<e_ xs 0):interF xs ys=interF xs (List.drop 1 ys):=by
 unfold interF
 refine List.filter_congr λx M=>?_
 rw [decide_eq_decide]
 have aa:e_ ys 0<x:=by
  rw [head_drop h0] at M
  rcases List.mem_cons.1 M with rfl|e
  ·exact h
  have:=head_lt hx h0 e;omega
 constructor
 ·intro hm
  rw [head_drop h1] at hm
  rcases List.mem_cons.1 hm with e|e
  ·omega
  exact e
 exact λhm=>List.mem_of_mem_drop hm
theorem inter_eq(hx:xs.Pairwise (λx0 x1:Int=>x0<x1))(h0:0<xs.length)(h1:0<ys.length)(h:e_ xs 0=e_ ys 0):interF xs ys=e_ xs 0::interF (List.drop 1 xs) (List.drop 1 ys):=by
 have M:e_ xs 0∈ys:=by rw [h];exact Bx om om
 conv=>lhs;rw [head_drop h0]
 unfold interF
 rw [List.filter_cons_of_pos (p:=λx=>decide<|x∈ys) (decide_eq_true M)]
 congr 1
 refine List.filter_congr λx aa=>?_
 rw [decide_eq_decide]
 have ab:=head_lt hx h0 aa
 constructor
 ·intro M
  rw [head_drop h1] at M
  rcases List.mem_cons.1 M with e|e
  ·omega
  exact e
 exact λM=>List.mem_of_mem_drop M
theorem inter_nil(h:xs.length=0\/ys.length=0):interF xs ys=[]:=by
 unfold interF
 rcases h with h|h
 ·rw [List.length_eq_zero_iff.1 h];rfl
 rw [List.length_eq_zero_iff.1 h];simp
theorem Shared_ok{κ:Ctx}{I:List Item}{a0 b0:Option Addr}{c0 d0:Nat}(hl:Sl κ I (.slice a0 xs.length c0) xs)(hm:Sl κ I (.slice b0 ys.length d0) ys)(hx:xs.Pairwise (λx0 x1:Int=>x0<x1))(hy:ys.Pairwise (λx0 x1:Int=>x0<x1))(hb:xs.length<=100000):eu prog κ 200 [.slice a0 xs.length c0,.slice b0 ys.length d0] I (λr J=>∃a c,r = .slice a (interF xs ys).length c/\J=vc 3 (.slice a (interF xs ys).length c) (interF xs ys)::I):=by
 refine Ce2 Tryz.func200 C C<|Z ?_
 refine D7 (σ:=(Option Addr)×Nat×(List Int)×(Option Addr)×Nat×(List Int)×(Option Addr)×Nat×(List Int)) (λs=>[(0,.slice s.1 s.2.2.1.length s.2.1),(1,.slice s.2.2.2.1 s.2.2.2.2.2.1.length s.2.2.2.2.1),(5,.slice s.2.2.2.2.2.2.1 s.2.2.2.2.2.2.2.2.length s.2.2.2.2.2.2.2.1)]) (λs=>[vc 3 (.slice s.2.2.2.2.2.2.1 s.2.2.2.2.2.2.2.2.length s.2.2.2.2.2.2.2.1) (s.2.2.2.2.2.2.2.2)]) (λs=>(Sl κ I (.slice s.1 s.2.2.1.length s.2.1) s.2.2.1)/\(Sl κ I (.slice s.2.2.2.1 s.2.2.2.2.2.1.length s.2.2.2.2.1) s.2.2.2.2.2.1)/\(s.2.2.1.Pairwise (λx0 x1:Int=>x0<x1))/\(s.2.2.2.2.2.1.Pairwise (λx0 x1:Int=>x0<x1))/\(interF xs ys=s.2.2.2.2.2.2.2.2++interF s.2.2.1 s.2.2.2.2.2.1)/\(s.2.2.2.2.2.2.2.2.length+s.2.2.1.length<=xs.length)) (λs=>(s.2.2.1.length+s.2.2.2.2.2.1.length)) (a0,c0,xs,b0,d0,ys,none,0,[]) ⟨hl,hm,hx,hy,rfl,(by simp)⟩ (hI:=(Bw _ _)) ?_
 rintro ⟨pa,pc,M,qa,qc,aa,oa,oc,out⟩ hp
 dsimp only at hp ⊢
 obtain ⟨hA,hB,ad,ae,ab,ao⟩:=hp
 refine Z ?_
 refine A6 (d:=9) C (λg9=>Z ?_)<|λg9=>Z ?_
 ·refine Ap C (λc13=>Z ?_) (λc13=>Z ?_)
  ·refine A4 mixed (Cr 7<|Z ?_)
   refine Ds1 6<|Sc0 C (Ac c_ C C<|Compare_ok (e_ M 0)<|e_ aa 0) ?_
   have an:(e_ M 0<e_ aa 0/\cmpI (e_ M 0) (e_ aa 0) = -1)\/(e_ aa 0<e_ M 0/\cmpI (e_ M 0) (e_ aa 0)=1)\/(e_ M 0=e_ aa 0/\cmpI (e_ M 0) (e_ aa 0)=0):=by unfold cmpI;repeat (first|omega|split)
   refine Z ?_
   refine Ap C (λah=>?_)<|λah=>Z ?_
   ·refine Be (Gm C<|Gr (Eb (α:=Int) (xs:=M) (l:=1) Aa ef C C om (Au hA) om)<|Z ?_)
    exact B5 (((adrop pa pc 1<|Enc.sz Int)),((pc - 1)),(List.drop 1 M),(qa),(qc),(aa),(oa),(oc),(out)) (by dsimp only;exact ⟨(C8 hA om),hB,(asc_drop ad),ae,(by rw [ab,inter_lt ae om om om]),(by first|omega|(simp only [List.length_append,List.length_drop,List.length_cons,List.length_nil];omega))⟩) (hlt:=by (try dsimp only);exact (by simp only [List.length_drop];omega))
   refine Ap C (λak=>?_)<|λak=>Z ?_
   ·refine Be (Gm C<|Gr (Eb (α:=Int) (xs:=aa) (l:=1) Aa ef C C om (Au hB) om)<|Z ?_)
    exact B5 ((pa),(pc),(M),((adrop qa qc 1<|Enc.sz Int)),((qc - 1)),(List.drop 1 aa),(oa),(oc),(out)) (by dsimp only;exact ⟨hA,(C8 hB om),ad,(asc_drop ae),(by rw [ab,inter_gt ad om om om]),(by first|omega|(simp only [List.length_append,List.length_drop,List.length_cons,List.length_nil];omega))⟩) (hlt:=by (try dsimp only);exact (by simp only [List.length_drop];omega))
   refine Ge1 (B9 (α:=Int) (cs:=[_]) (xs:=[e_ M 0]) Aa ef C C dc dc C C C C) λap=>?_
   refine Ge2 (B4 (α:=Int) (e:=3) (xs:=out) (ys:=([e_ M 0]:List Int)) Aa ef C C C mm A7 lcn dc C<|λ_ _=>am) λai aj=>Z ?_
   refine A4 mixed<|Cr 6<|Z ?_
   refine Dr 1 C (Eb (α:=Int) (xs:=M) (l:=1) Aa ef C C om (Au hA) om)<|Z ?_
   refine Dr 3 C (Eb (α:=Int) (xs:=aa) (l:=1) Aa ef C C om (Au hB) om)<|Z ?_
   exact B5 (((adrop pa pc 1<|Enc.sz Int)),((pc - 1)),(List.drop 1 M),((adrop qa qc 1<|Enc.sz Int)),((qc - 1)),(List.drop 1 aa),(ai),(aj),(out++([e_ M 0]:List Int))) (by dsimp only;exact ⟨(C8 hA om),(C8 hB om),(asc_drop ad),(asc_drop ae),(by rw [ab,inter_eq ad om om om,List.append_assoc];rfl),(by first|omega|(simp only [List.length_append,List.length_drop,List.length_cons,List.length_nil];omega))⟩) (hlt:=by (try dsimp only);exact (by simp only [List.length_drop];omega))
  have hE:interF xs ys=out:=by rw [ab,inter_nil om,List.append_nil]
  exact Ai C C (vc 3 (.slice oa (interF xs ys).length oc) (interF xs ys)::I) (by rw [hE];exact Aj) ⟨oa,oc,by rw [hE],rfl⟩
 have hE:interF xs ys=out:=by rw [ab,inter_nil om,List.append_nil]
 exact Ai C C (vc 3 (.slice oa (interF xs ys).length oc) (interF xs ys)::I) (by rw [hE];exact Aj) ⟨oa,oc,by rw [hE],rfl⟩
end Go.Sl
