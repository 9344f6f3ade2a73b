/- A part of the proofs of statements of this seat: contracts of functions, and the plain laws that they lean on. No conditions. -/
import Derived.Test.YtfkcohmipjhfcaaGreatDoorB18
set_option linter.unusedVariables false
set_option linter.unusedSimpArgs false
set_option linter.unusedSectionVars false
open Go.Proofs.Tryz (prog)
set_option maxHeartbeats 2000000
namespace Go.Sl
open Go.Proofs
set_option maxRecDepth 4000
variable{den kd lv mo nd no num tm tq wd:Int}{M v:Value}{es:List Pt}{ea sa:Option Addr}{b ec j j1 n sc:Nat}{fst own:Bool}{xs:List Int}
variable {κ:Ctx}{I:List Item}
attribute [local irreducible] W G V D A j0 Eff
theorem cj8{es:List Ev}(E:Sl κ I M es):er prog κ 79 [e7 nd,M] I (λr J=>r=e7 (q8 nd es)/\I=J):=by
 refine Ce2 Tryz.func79 C C<|Z ?_
 refine G.e (Ac c_ C C<|ch4 (nd:=nd)<|Bc E) ?_
 rintro _ _ ⟨_,_,⟨rfl,rfl⟩,rfl,rfl⟩
 exact Ga C<|Aq<|Bq<|Ak C C I Af ⟨rfl,rfl⟩
theorem fe3{es:List Ev}(E:Sl κ I M es):er prog κ 97 [e7 nd,M,.agg #[e7 kd,e7 wd,e7 mo]] I (λr J=>r=e7 (K6 nd kd wd mo es)/\I=J):=by
 refine Ce3 Tryz.func97 C C ?_
 refine Aj<|Ge1 (Ay (cs:=[_,_,_]) C C C) λb1=>Z ?_
 refine G.e (Ac c_ C C<|bk6 kd wd mo) ?_
 rintro _ _ ⟨_,_,⟨rfl,rfl⟩,rfl,rfl⟩
 refine Z ?_
 refine Am C (λc11=>Z ?_)<|λc11=>Z ?_
 ·exact Ak C C I Af ⟨by unfold K6;rw [By c11],rfl⟩
 refine Gc0 (Ac c_ C C<|cj8 (nd:=nd)<|Bc E)<|Z ?_
 exact Ak C C I Af ⟨by unfold K6;rw [An c11],rfl⟩
theorem fd2{M:Nat} :
    er prog κ 98 [e7 nd,.slice ea M ec,.agg #[e7 kd,e7 wd,e7 mo]] I (λr J=>∃q1 q2 q3,r = .func (.func 165) #[] #[(pt q1),pt q2,pt q3]/\J=e8 q3 [e7 kd,e7 wd,e7 mo] 31::e8 q2 [.slice ea M ec] 28::e8 q1 [e7 nd] 3::I):=by
 refine Ce3 Tryz.func98 C C ?_
 exact Aj<|Ge1 (Ay (cs:=[_]) C C C) λb1=>Ge1 (Ay (cs:=[_]) C C C) λb2=>Ge1 (Ay (cs:=[_,_,_]) C C C) λE=>Ga C<|Aq<|Aj<|Gr (Ei C C)<|Ga C<|Aq<|Bq<|Ak C C (e8 E [e7 kd,e7 wd,e7 mo] 31::e8 b2 [.slice ea M ec] 28::e8 b1 [e7 nd] 3::I) (Di _) ⟨b1,b2,E,rfl,rfl⟩
theorem gm6{es:List Ev}(h:∀i:Nat,i<(V8 kd wd mo es).length->(e_ (V8 kd wd mo es) i).tm<=tq):F4 (eh ((V8 kd wd mo es).take (V8 kd wd mo es).length))=atG kd wd mo es tq:=by
 unfold atG
 rw [da4 (Gk _) h λhlt=>absurd hlt<|Nat.lt_irrefl _]
theorem gb3{es:List Ev}(hj:j<(V8 kd wd mo es).length)(h:∀i:Nat,i<j->(e_ (V8 kd wd mo es) i).tm<=tq)(M:tq<(e_ (V8 kd wd mo es) j).tm):F4 (eh ((V8 kd wd mo es).take j))=atG kd wd mo es tq:=by
 unfold atG
 rw [da4 (Nat.le_of_lt hj) h λ_=>M]
theorem gb2{E:List Ev}(hM:bk0 E fst j tm own j1)(M:tm<=tq)(hq:fst=false->∀i:Nat,i<j->(e_ E i).tm<=tq):∀i:Nat,i<j1->(e_ E i).tm<=tq:=λi hi=>by
 by_cases h:i<j
 ·cases hf:fst with
  |true=>have:=(hM.first hf).2;omega
  |false=>exact hq hf i h
 rw [hM.same i om hi];exact M
theorem gb5{E:Int}{es:List Ev}{X:List Pt}(M:bk0 (V8 kd wd mo es) fst j tm own j1)(aa:j<=(V8 kd wd mo es).length)(hlt:tq<tm)(h0:0<=tq)
  (hq:fst=false->E=nd/\X=F4 (eh<|(V8 kd wd mo es).take j)/\∀i:Nat,i<j->(e_ (V8 kd wd mo es) i).tm<=tq):E=nd/\X=atG kd wd mo es tq:=by
 cases hf:fst with
 |true=>have:=(M.first hf).1;omega
 |false=>
  obtain ⟨h1,h2⟩:=M.next hf
  obtain ⟨q1,q2,q3⟩:=hq hf
  exact ⟨q1,q2.trans<|gb3 h1 q3 om⟩
theorem gv9{es:List Ev}(hl:Sl κ I (.slice ea es.length ec) es)(hH:G6 nd kd wd mo es)(hlen:es.length<=19)(ht:0<=tq/\tq<=1048576):er prog κ 44 [e7 nd,.slice ea es.length ec,.agg #[e7 kd,e7 wd,e7 mo],e7 tq] I (λr J=>∃a c,r = .tuple #[.agg #[e7 nd,.slice a (atG kd wd mo es tq).length c],e7 0]/\J=vq 135 a c (atG kd wd mo es tq)::I):=by
 refine er.gm1 (L:=[(0,e7 nd),(1,.slice ea es.length ec),(2,.agg #[e7 kd,e7 wd,e7 mo]),(3,e7 tq)]) Tryz.func44 C C C C ?_
 refine Aj<|Ge1 (Ay (cs:=[_,_,_]) C C C) λb1=>Ge1 (Ay (cs:=[_]) C C C) λb2=>Ge1 (Ah H2 C) λb3=>Ga C<|Aq<|Ax<|Aj<|Gm C<|Gm C<|Gl3 ah8 ?_
 refine Gc0 (Ac c_ C C<|fe3 (nd:=nd) (kd:=kd) (wd:=wd) (mo:=mo)<|Bc hl) ?_
 refine Ga C<|Aq<|Aj<|Gm C<|Gr (Cu C C)<|Aq<|A0 (S7 19 10 8 7 6 0 1)<|Am C (λaj=>?_)<|λaj=>?_
 ·exact absurd (ai4 hH) aj
 refine A4<|Al<|Ax<|Aj<|Gl ef ?_
 refine Gr (Bp C C)<|Gm C<|Au (d:=24) C (λar=>?_)<|λar=>?_
 ·omega
 refine e9 (Bd ef) ?_
 refine e9 (Cl C C)<|Gr (Bg C C)<|Aq<|A0 (S6 27 8 7 6 0 1)<|Am C (λaq=>?_)<|λaq=>?_
 ·omega
 refine A4<|Al<|Aj<|Ge1 (Ah H2 C) λb4=>Aq<|Ax<|Aj<|Gm C<|Gm C<|Gl3 ah8 ?_
 refine G.e (Ac c_ C C fd2) ?_
 rintro _ _ ⟨_,_,⟨aa,E,M,rfl,rfl⟩,rfl,rfl⟩
 refine Aq<|A3<|W.fit (J:=e8 b4 [e7 0,.slice none 0 0] 48::vc 135 (.slice none 0 0) (([]:List Pt))::e8 M [e7 kd,e7 wd,e7 mo] 31::e8 E [.slice ea es.length ec] 28::e8 aa [e7 nd] 3::e8 b3 [e7 0,.slice none 0 0] 48::e8 b2 [e7 tq] 3::e8 b1 [e7 kd,e7 wd,e7 mo] 31::I) (Bz (Bb (α:=Pt) 135 _) Bi) ?_
 refine W.fg8 (gf:=165) (lb:=[(pt aa),pt E,pt M]) C c_ λDm l rc ae ad ap ak ao=>?_
 refine (dm1 (I:=e8 M [e7 kd,e7 wd,e7 mo] 31::e8 E [.slice ea es.length ec] 28::e8 aa [e7 nd] 3::e8 b3 [e7 0,.slice none 0 0] 48::e8 b2 [e7 tq] 3::e8 b1 [e7 kd,e7 wd,e7 mo] 31::I) (σ:=Int×(Option Addr)×Nat×(List Pt)) (τ:=Int×(Option Addr)×Nat×(List Pt)) (l:=l) (Lf:=λs=>[bu5 l rc,cf4 Dm,e8 b4 [e7 (s.1),.slice s.2.1 s.2.2.2.length s.2.2.1] 48,vc 135 (.slice s.2.1 s.2.2.2.length s.2.2.1)<|s.2.2.2]) (Pf:=λfst j s=>(fst=false->s.1=nd/\s.2.2.2=F4 (eh<|(V8 kd wd mo es).take j)/\∀i:Nat,i<j->(e_ (V8 kd wd mo es) i).tm<=tq)/\(j<=(V8 kd wd mo es).length)) (Xf:=λs=>[bu5 l {rc with state:= .done,pending:=some (.exit 0)},cf4 Dm,e8 b4 [e7 (s.1),.slice s.2.1 s.2.2.2.length s.2.2.1] 48,vc 135 (.slice s.2.1 s.2.2.2.length s.2.2.1)<|s.2.2.2]) (Qf:=λs=>(s.1=nd/\s.2.2.2=atG kd wd mo es tq)) (s0:=(0,none,0,([]:List Pt))) hH hlen (D7 mm) (D7 mm) (D7 mm) (Bc hl) ⟨λh=>(by cases h),Le _⟩ ?_).mono ?_
 ·rintro T au fst j tm own j1 ga gc hM ⟨gn,a,c,X⟩ hp
  obtain ⟨hq,ah⟩:(fst=false->gn=nd/\X=F4 (eh<|(V8 kd wd mo es).take j)/\∀i:Nat,i<j->(e_ (V8 kd wd mo es) i).tm<=tq)/\(j<=(V8 kd wd mo es).length):=hp
  have av:X8 κ T b2 [e7 tq] 3:=(D7 (I:=e8 M [e7 kd,e7 wd,e7 mo] 31::e8 E [.slice ea es.length ec] 28::e8 aa [e7 nd] 3::e8 b3 [e7 0,.slice none 0 0] 48::e8 b2 [e7 tq] 3::e8 b1 [e7 kd,e7 wd,e7 mo] 31::I) mm).fit au
  refine ah1.fit (J:=bu5 l rc::vq 135 ga gc (F4<|eh<|(V8 kd wd mo es).take j1)::cf4 Dm::e8 b4 [e7 gn,.slice a X.length c] 48::vq 135 a c X::T) Bi ?_
  refine ah1.mkA (L₀:=[(34,.agg #[e7 nd,.slice ga (F4<|eh<|(V8 kd wd mo es).take j1).length gc]),(33,.agg #[e7 tm,.bool own]),(32,.func (.func 165) #[] #[(pt aa),pt E,pt M]),(31,.agg #[e7 kd,e7 wd,e7 mo]),(30,.slice ea es.length ec),(29,e7 nd),(11,pt b4),(27,.bool<|decide<|1048576<tq),(8,pt b3),(7,pt b2),(6,pt b1),(0,e7 nd),(1,.slice ea es.length ec)]) (by rw [ad];rfl) ap ak (by rw [ad,fk9];exact gn2 ao C C) ?_
  refine WR.seq ?_
  refine WR.region (λ_ _ h=>False.elim h) C ?_
  refine Ge1 (Ah az4 C) λb8=>Ge0 (Ba az4) ?_
  refine Bl<|V.fw6 ?_
  refine WR.sub (L':=[(12,_),(34,_),(11,_),(7,_)]) (cx2<|Aa C<|Aa C A9) ?_
  refine WR.region (λ_ _ h=>False.elim h) C ?_
  refine Ge1 (Ah H2 C) λb9=>Ge0 (Ba H2) ?_
  refine Bl<|V.begin (e8 b9 [e7 nd,.slice ga (F4<|eh<|(V8 kd wd mo es).take j1).length gc] 48::e8 b8 [e7 tm,.bool own] 153::vq 135 ga gc (F4<|eh<|(V8 kd wd mo es).take j1)::cf4 Dm::e8 b4 [e7 gn,.slice a X.length c] 48::vq 135 a c X::T) Bi ae ?_
  refine WR.block ?_
  refine WR.seq ?_
  refine WR.seq ?_
  refine WR.region (λ_ _ h=>False.elim h) C ?_
  refine Gf bw9 C<|Gl ef ?_
  refine Gr (Dt ef C (Dj av Af) C)<|Gr (Cl C C)<|Bl<|V.fw6 ?_
  refine WR.ite C (λan=>?_)<|λan=>?_
  ·refine WR.exit ?_
   exact Ao<|Eu C<|V.gg7 (cf4 Dm::e8 b4 [e7 gn,.slice a X.length c] 48::vq 135 a c X::T) Bi<|.inr ⟨rfl,(gn,a,c,X),(gb5 hM ah om om hq),rfl⟩
  refine WR.skip ?_
  refine V.fw6 ?_
  refine WR.region (λ_ _ h=>False.elim h) C ?_
  refine Gl2 H2 ?_
  refine Ge0 (Ba H2) ?_
  refine Bl<|Ap ?_
  have ai:∀i:Nat,i<j1->(e_ (V8 kd wd mo es) i).tm<=tq:=gb2 hM om (λh=>(hq h).2.2)
  exact V.gg8 (cf4 Dm::e8 b4 [e7 nd,.slice ga (F4<|eh<|(V8 kd wd mo es).take j1).length gc] 48::vq 135 ga gc (F4<|eh<|(V8 kd wd mo es).take j1)::T) Bi ae<|.inl ⟨rfl,(nd,ga,gc,F4<|eh<|(V8 kd wd mo es).take j1),⟨(λ_=>⟨rfl,rfl,ai⟩),hM.le.2⟩,rfl⟩
 rintro v K ⟨rfl,(⟨⟨gn,a,c,X⟩,hp,rfl⟩|⟨⟨gn,a,c,X⟩,hp,rfl⟩)⟩
 ·obtain ⟨hq,ah⟩:(false=false->gn=nd/\X=F4 (eh<|(V8 kd wd mo es).take (V8 kd wd mo es).length)/\∀i:Nat,i<(V8 kd wd mo es).length->(e_ (V8 kd wd mo es) i).tm<=tq)/\((V8 kd wd mo es).length<=(V8 kd wd mo es).length):=hp
  refine .inl ⟨_,rfl,?_⟩
  show V κ _ _ .normal ([(32,.func (.func 165) #[] #[(pt aa),pt E,pt M]),(31,.agg #[e7 kd,e7 wd,e7 mo]),(30,.slice ea es.length ec),(29,e7 nd),(11,pt b4),(27,.bool<|decide<|1048576<tq),(8,pt b3),(7,pt b2),(6,pt b1),(0,e7 nd),(1,.slice ea es.length ec)]:Env) (cf4 Dm::e8 b4 [e7 gn,.slice a X.length c] 48::vq 135 a c X::e8 M [e7 kd,e7 wd,e7 mo] 31::e8 E [.slice ea es.length ec] 28::e8 aa [e7 nd] 3::e8 b3 [e7 0,.slice none 0 0] 48::e8 b2 [e7 tq] 3::e8 b1 [e7 kd,e7 wd,e7 mo] 31::I)
  have hX:X=atG kd wd mo es tq:=(hq rfl).2.1.trans (gm6 (hq rfl).2.2)
  have ab:=(hq rfl).1
  refine Ap<|Al<|Aj<|Gl2 H2 ?_
  refine Ge0 (Ba H2) ?_
  refine Ga C<|Aq<|Bq ?_
  rw [hX,ab]
  refine V.fit (J:=cf4 Dm::e8 b4 [e7 nd,.slice a (atG kd wd mo es tq).length c] 48::vq 135 a c (atG kd wd mo es tq)::e8 M [e7 kd,e7 wd,e7 mo] 31::e8 E [.slice ea es.length ec] 28::e8 aa [e7 nd] 3::e8 b3 [e7 nd,.slice a (atG kd wd mo es tq).length c] 48::e8 b2 [e7 tq] 3::e8 b1 [e7 kd,e7 wd,e7 mo] 31::I) Bi<|V.leave ?_
  exact C7 C H2 C C mm C (vq 135 a c (atG kd wd mo es tq)::I) Bi ⟨a,c,rfl,rfl⟩
 have hQ:(gn=nd/\X=atG kd wd mo es tq):=hp
 refine .inr ⟨_,_,rfl,?_⟩
 have hX:=hQ.2
 have ab:=hQ.1
 refine B6<|A5<|Al<|Aj<|Gl2 H2 ?_
 refine Ge0 (Ba H2) ?_
 refine Ga C<|Aq<|Bq ?_
 rw [hX,ab]
 refine V.fit (J:=cf4 Dm::e8 b4 [e7 nd,.slice a (atG kd wd mo es tq).length c] 48::vq 135 a c (atG kd wd mo es tq)::e8 M [e7 kd,e7 wd,e7 mo] 31::e8 E [.slice ea es.length ec] 28::e8 aa [e7 nd] 3::e8 b3 [e7 nd,.slice a (atG kd wd mo es tq).length c] 48::e8 b2 [e7 tq] 3::e8 b1 [e7 kd,e7 wd,e7 mo] 31::I) Bi<|V.leave ?_
 exact C7 C H2 C C mm C (vq 135 a c (atG kd wd mo es tq)::I) Bi ⟨a,c,rfl,rfl⟩
variable {κ:Ctx}{I:List Item}
theorem cs5.frv{N D:Int}{B:BitVec 64}(h:cs5 nd es N D B)(M:G8 nd es):FrV ⟨N,D⟩:=by
 by_cases hn:nd=0
 ·obtain ⟨h1,E,_⟩:=h.none (j6.2 M) hn
  subst h1 E
  exact ⟨by decide,by decide,by decide,by decide,by decide⟩
 obtain ⟨x,y,hx,hy,e⟩:=(h.some (j6.2 M) hn).red
 rw [e]
 exact ds8 hx.1 om om om
theorem dy4{x y:Fr}:0<=ak2 x y↔y.num*x.den<=x.num*y.den:=by unfold ak2;repeat (first|omega|split)
def cp5(nd:Int)(es:List Pt)(num den:Int):Prop:=if nd=0 then num<=0 else ∃W,ah5 nd W/\W≠0#64/\num*J5 W<=den*J7 W es
theorem bh7(M:G8 nd es)(set:List Int):FrV (Z6 nd es set):=by
 unfold Z6
 rw [An (λh=>h<|j6.2 M)]
 split
 ·exact ⟨by decide,by decide,by decide,by decide,by decide⟩
 rename_i hm
 have h1:=aw2 nd es set
 have E:=an2 M
 have h3:(N5 set<|K4 nd).length<=1073741824:=by
  have hl:=bq6 (nd:=nd) (es:=es) set (λh=>h<|j6.2 M)
  have hb:=cv6 (z7 set &&& K2 nd)
  omega
 exact ds8 om om om om
theorem an3(M:G8 nd es):(G5 nd es).length=nd.toNat:=by
 unfold G5
 have E:=M.rng
 rw [An (λh=>h<|j6.2 M),ak1,ad1]
 omega
def bi4(nd:Int)(es:List Pt)(v lv:Int):List Int:=bm5 nd es [v] (N0 nd es lv)
theorem fg7(nd:Int)(es:List Pt)(f s:List Int):(bm5 nd es f s).length<=64:=by
 unfold bm5
 split
 ·simp
 exact Ee _
theorem gd6{v:Int}(hl:Sl κ I (.slice ea es.length ec) es)(hG:G8 nd es)(hv:0<=v/\v<nd)(hT:P6 κ I 0 F3):er prog κ 59 [.agg #[e7 nd,.slice ea es.length ec],e7 v,e7 lv] I (λr J=>∃a c,r = .tuple #[.slice a (bi4 nd es v lv).length c,e7 0]/\J=vq 3 a c (bi4 nd es v lv)::I):=by
 refine Ce3 Tryz.func59 C C ?_
 refine Aj<|Ge1 (Ay (cs:=[_,_]) C C C) λb1=>Z ?_
 refine Gc0 (Ac c_ C C<|M1<|Bc hl)<|Z ?_
 refine Am C (λM=>?_)<|λM=>Z ?_
 ·exact absurd (j6.2 hG) M
 refine Au (d:=18) C (λae=>?_)<|λae=>Z ?_
 ·omega
 refine Am C (λad=>?_)<|λad=>Z ?_
 ·omega
 refine G.e (Ac c_ C C<|fs2 (nd:=nd) (lv:=lv) (Bc hl)<|Cb hT Af) ?_
 rintro _ _ ⟨_,_,⟨ai,ah,rfl,rfl⟩,rfl,rfl⟩
 refine Z ?_
 refine Am C (λab=>?_)<|λab=>Z ?_
 ·exact absurd (j6.2 hG) ab
 refine Ge1 (Bt (α:=Int) (cs:=[_]) (xs:=[v]) Ab ef C C dc dc C C C C) λaj=>?_
 refine Gm C<|Gc2 (Ac c_ C C<|fd9 (nd:=nd) (Bc hl) A6 A6<|Cb hT Af) λaa E=>Z ?_
 exact B5 C C C (vc 3 (.slice aa (bm5 nd es ([v]:List Int)<|N0 nd es lv).length E) (bi4 nd es v lv)::I) Bi ⟨aa,E,by rw [j6.2 hG]<;>rfl,rfl⟩
theorem fa9{M:Nat}(E:X8 κ I b [e7 kd,e7 no,e7 lv,.slice sa n M,e7 num,e7 den] 42)(t:Int):er prog κ 151 [e7 t,(pt b)] I (λr J=>r = .bool (decide (lv<=t))/\I=J):=by
 refine Ce2 Tryz.func151 C C<|Z ?_
 refine Gr (Dt ef C (Dj E Af) C)<|Z ?_
 exact Ak C C I Af ⟨rfl,rfl⟩
theorem dk9{E:List Int}(hl:Sl κ I v E)(hb:X8 κ I b [e7 kd,e7 no,e7 lv,.slice sa n sc,e7 num,e7 den] 42):er prog κ 223 [v,.func (.func 151) #[] #[(pt b)]] I (λr J=>∃y:Int,r=e7 y/\(0<=y↔∃t∈E,lv<=t)/\I=J):=by
 refine Bm hl.le λaa=>?_
 refine Ce2 Tryz.func223 C C<|Z ?_
 refine Dl (σ:=Nat) (λs=>[(8,e7 ((s:Nat):Int))]) (λ_=>[]) (λs=>(s<=E.length)/\(∀j,j<s->¬lv<=e_ E j)) (λs=>E.length - s) 0 ⟨om,Et⟩ ?_
 rintro k hp
 obtain ⟨hk,hn⟩:=hp
 refine Z ?_
 refine Am C (λc9=>Z ?_)<|λc9=>Z ?_
 ·refine Gc0 (C0 c_ C C C<|fa9 (Dj hb Af)<|e_ E k) ?_
  refine Aq<|Am C (λM=>Z ?_)<|λM=>Z ?_
  ·exact Ak C C I Af ⟨_,rfl,⟨λ_=>⟨_,B3 om om,M⟩,λ_=>by omega⟩,rfl⟩
  exact Bh ((k+1)) ⟨om,(Dg hn M)⟩
 exact Ak C C I Af ⟨_,rfl,⟨λh=>absurd h dc,λ⟨t,ht,h2⟩=>by obtain ⟨q,hq,e⟩:=bv6 ht;rw [e] at h2;exact absurd h2<|hn q om⟩,rfl⟩
theorem bz5{M:List Int}(hl:Sl κ I v M)(E:X8 κ I b [e7 kd,e7 no,e7 lv,.slice sa n sc,e7 num,e7 den] 42):er prog κ 150 [v,.func (.func 151) #[] #[(pt b)]] I (λr J=>r = .bool (decide (∃t∈M,lv<=t))/\I=J):=by
 refine Ce2 Tryz.func150 C C<|Z ?_
 refine G.e (Ac c_ C C<|dk9 (Bc hl)<|Dj E Af) ?_
 rintro _ _ ⟨_,_,⟨y1,rfl,aa,rfl⟩,rfl,rfl⟩
 refine Z ?_
 exact Ak C C I Af ⟨by rw [Fy.2 asm],rfl⟩
theorem fr3(hl:Sl κ I (.slice ea es.length ec) es)(hs:Sl κ I (.slice sa xs.length sc) xs)(E:G8 nd es)(ah:0<=no/\no<nd)(hT:P6 κ I 0 F3):er prog κ 144 [.agg #[e7 nd,.slice ea es.length ec],.agg #[e7 1,e7 no,e7 lv,.slice sa xs.length sc,e7 0,e7 0]] I (λr J=>∃t:Bool,r = .bool t/\(t=true↔lv<=e_ (G5 nd es) no)/\I=J):=by
 have ae:=an3 E
 have aa:=E.rng
 refine Ce2 Tryz.func144 C C ?_
 refine Aj<|Ge1 (Ay (cs:=[_,_]) C C C) λb1=>Ge1 (Ay (cs:=[_,_,_,_,_,_]) C C C) λb2=>Z ?_
 refine Gc2 (Ac c_ C C<|bk7 (nd:=nd) (Bc hl)<|Cb hT Af) λad ab=>Z ?_
 refine A8 mixed<|C1 13<|Z ?_
 refine Cw (d:=14) C (λM=>Z ?_)<|λM=>?_
 ·exact Ak C C I Af ⟨decide<|lv<=(e_ (G5 nd es) no),rfl,by rw [Jw],rfl⟩
 exact absurd (j6.2 E) M
theorem fr2(hl:Sl κ I (.slice ea es.length ec) es)(hs:Sl κ I (.slice sa xs.length sc) xs)(E:G8 nd es)(hT:P6 κ I 0 F3):er prog κ 148 [.agg #[e7 nd,.slice ea es.length ec],.agg #[e7 4,e7 0,e7 lv,.slice sa xs.length sc,e7 0,e7 0]] I (λr J=>∃t:Bool,r = .bool t/\(t=true↔∃t∈z8 nd es,lv<=t)/\I=J):=by
 have ad:es.length<=1000000:=by have:=an2 E;omega
 refine Ce2 Tryz.func148 C C ?_
 refine Aj<|Ge1 (Ay (cs:=[_,_]) C C C) λb1=>Ge1 (Ay (cs:=[_,_,_,_,_,_]) C C C) λb2=>Z ?_
 refine G.e (Ac c_ C C<|cq5 (nd:=nd) (Bc hl) om<|Cb hT Af) ?_
 rintro _ _ ⟨_,_,⟨ab,aa,rfl,rfl⟩,rfl,rfl⟩
 refine Z ?_
 refine Au (d:=14) C (λM=>?_)<|λM=>?_
 ·refine e9 (Ad C) (e9 (Ei C C)<|D0 (B9 C C C) (Ac c_ C C<|bz5 A6<|D7 mm) ?_)
  rintro _ _ ⟨_,_,⟨rfl,rfl⟩,rfl,rfl⟩
  refine Z ?_
  exact Ak C C I Af ⟨decide (∃t∈(z8 nd es),lv<=t),rfl,by rw [Jw],rfl⟩
 exact absurd (j6.2 E) M
theorem fr1(hl:Sl κ I (.slice ea es.length ec) es)(hs:Sl κ I (.slice sa xs.length sc) xs)(hG:G8 nd es)(hx:0<xs.length/\xs.length<=64)(E:y7 xs nd)(hT:P6 κ I 0 F3):er prog κ 152 [.agg #[e7 nd,.slice ea es.length ec],.agg #[e7 5,e7 0,e7 lv,.slice sa xs.length sc,e7 0,e7 0]] I (λr J=>∃t:Bool,r = .bool t/\(t=true↔∀x∈xs,x∈bi4 nd es (e_ xs 0) lv)/\I=J):=by
 refine Ce2 Tryz.func152 C C ?_
 refine Aj<|Ge1 (Ay (cs:=[_,_]) C C C) λb1=>Ge1 (Ay (cs:=[_,_,_,_,_,_]) C C C) λb2=>Ga C<|Aq<|Ax<|A8 mixed<|C1 13<|Z ?_
 refine Ds1 7<|Se C (Ac c_ C C<|gd6 (nd:=nd) (v:=e_ xs 0) (lv:=lv) (Bc hl) hG (by have h:=(E 0 om).1;exact h)<|Cb hT Af) ?_
 rintro _ _ ⟨_,_,⟨ab,aa,rfl,rfl⟩,rfl,rfl⟩
 refine ⟨Ar,?_⟩
 refine Z ?_
 refine Au (d:=20) C (λM=>Z ?_)<|λM=>?_
 ·refine D0 (B9 C C C) (Ac c_ C C<|di2 (Bc hs) A6 om<|by have:=fg7 nd es [e_ xs 0] (N0 nd es lv);show (bm5 _ _ _ _).length<=_;omega) ?_
  rintro _ _ ⟨_,_,⟨rfl,rfl⟩,rfl,rfl⟩
  refine Z ?_
  exact Ak C C I Af ⟨decide (∀x∈xs,x∈(bi4 nd es (e_ xs 0) lv)),rfl,by rw [Jw],rfl⟩
 exact absurd rfl M
end Go.Sl
namespace Go.Sl
structure Rg where
 tm:Int
 al:Int
 on:Bool
deriving DecidableEq
instance:Inhabited Rg:=⟨⟨0,0,false⟩⟩
def dd5(t:Int)(h:Nat->Bool)(st:List Bool×List Rg)(i:Nat):List Bool×List Rg:=if h i=e_ st.1 i then st else (st.1.set i (h i),st.2++[⟨t,(i:Int),h i⟩])
def W8(t:Int)(h:Nat->Bool)(k:Nat)(st:List Bool×List Rg):List Bool×List Rg:=(List.range k).foldl (dd5 t h) st
def av7(H:Int->Nat->Bool)(n:Nat)(ts:List Int):List Bool×List Rg:=ts.foldl (λst t=>W8 t (H t) n st) (List.replicate n false,[])
theorem am5(t:Int)(h:Nat->Bool)(k:Nat)(st:List Bool×List Rg):W8 t h (k+1) st=dd5 t h (W8 t h k st) k:=by
 unfold W8;rw [Kj,Hw];rfl
theorem av6{H:Int->Nat->Bool}{n:Nat}{M:List Int}{k:Nat}(E:k<M.length):av7 H n (M.take (k+1))=W8 (e_ M k) (H (e_ M k)) n (av7 H n (M.take k)):=by
 unfold av7;rw [W7 M k E,Hw];rfl
def fx6(p:Nat->Bool)(t:Int)(h:Nat->Bool)(n:Nat):List Rg:=((List.range n).filter fun (i:Nat)=>h i !=p i).map fun (i:Nat)=>(⟨t,(i:Int),h i⟩:Rg)
def gh1(H:Int->Nat->Bool)(n:Nat):(Nat->Bool)->List Int->List Rg
 |_,[]=>[]
 |p,t::ts=>fx6 p t (H t) n++gh1 H n (H t) ts
theorem cu7(t:Int)(h:Nat->Bool){n:Nat}{on:List Bool}{out:List Rg}(hl:on.length=n){p:Nat->Bool}(hp:∀i,i<n->e_ on i=p i):∀k,k<=n->
  (W8 t h k (on,out)).1.length=n/\(∀i,i<n->e_ (W8 t h k (on,out)).1 (i:Int)=if i<k then h i else p i)/\(W8 t h k (on,out)).2=out++fx6 p t h k
 |0,_=>⟨hl,λi hi=>by rw [An (by omega)];exact hp i hi,by simp [W8,fx6]⟩
 |k+1,hk=>by
  obtain ⟨h1,E,h3⟩:=cu7 t h (out:=out) hl hp k (by omega)
  have M:=E k (by omega)
  rw [An (by omega)] at M
  rw [am5]
  unfold dd5
  have hr:fx6 p t h (k+1)=fx6 p t h k++if h k !=p k then [⟨t,(k:Int),h k⟩] else []:=by
   unfold fx6
   rw [Kj,Hc,Jb]
   congr 1
   cases hc:(h k !=p k)<;>simp [Gw,hc]
  by_cases he:h k=e_ (W8 t h k (on,out)).1 (k:Int)
  ·rw [By he]
   rw [M] at he
   refine ⟨h1,λi hi=>?_,?_⟩
   ·rw [E i hi]
    by_cases hik:i=k
    ·subst hik;rw [An (by omega),By<|by omega];exact he.symm
    by_cases hlt:i<k
    ·rw [By hlt,By<|by omega]
    rw [An hlt,An<|by omega]
   rw [h3,hr,he];simp
  rw [An he]
  rw [M] at he
  refine ⟨by rw [Gd];exact h1,λi hi=>?_,?_⟩
  ·show e_ ((W8 t h k (on,out)).1.set k (h k)) (i:Int)=_
   rw [aq7 _ _ _ _ (by rw [h1];omega)]
   by_cases hik:k=i
   ·subst hik;rw [By rfl,By<|by omega]
   rw [An hik,E i hi]
   by_cases hlt:i<k
   ·rw [By hlt,By<|by omega]
   rw [An hlt,An<|by omega]
  show (W8 t h k (on,out)).2++_=_
  rw [h3,hr,H1]
  have hb:(h k !=p k)=true:=by simpa using he
  rw [By hb]
theorem bo8(H:Int->Nat->Bool)(n:Nat):∀(ts:List Int) (on:List Bool) (out:List Rg) (p:Nat->Bool),on.length=n->(∀i,i<n->e_ on i=p i)->(ts.foldl (λst t=>W8 t (H t) n st) (on,out)).2=out++gh1 H n p ts
 |[],on,out,p,_,_=>by simp [gh1]
 |t::ts,on,out,p,hl,hp=>by
  obtain ⟨h1,E,h3⟩:=cu7 t (H t) (out:=out) hl hp n (Gk _)
  rw [Jp]
  have M:=bo8 H n ts (W8 t (H t) n (on,out)).1 (W8 t (H t) n (on,out)).2 (H t) h1 λi hi=>by rw [E i hi,By hi]
  rw [Prod.eta] at M
  rw [M,h3,H1];rfl
theorem fg4(H:Int->Nat->Bool)(n:Nat)(M:List Int):(av7 H n M).2=gh1 H n (λ_=>false) M:=by
 unfold av7
 rw [bo8 H n M _ [] (λ_=>false) Fw λi hi=>ak4 _ _ _ (by omega)<|by omega];rfl
end Go.Sl
namespace Go.Sl
open Go.Proofs
set_option maxRecDepth 4000
variable{kd:Int}{x:Operand}{T:TypeId}{I:List Item}
structure AlV where
 kd:Int
 no:Int
 lv:Int
 a:Option Addr
 c:Nat
 xs:List Int
 num:Int
 den:Int
instance:Inhabited AlV:=⟨⟨0,0,0,none,0,[],0,0⟩⟩
instance:Enc AlV:=⟨λr=>[e7 r.kd,e7 r.no,e7 r.lv,.slice r.a r.xs.length r.c,e7 r.num,e7 r.den],6,by omega,λ_=>rfl,λr u hu=>by
 simp only [Gh,Hy,Kx] at hu
 rcases hu with rfl|rfl|rfl|rfl|rfl|rfl<;>rfl⟩
def AlV.cells(x:AlV):Value:= .agg #[e7 x.kd,e7 x.no,e7 x.lv,.slice x.a x.xs.length x.c,e7 x.num,e7 x.den]
structure bz9 (n:Int) (x:AlV):Prop where
 kind:1<=x.kd/\x.kd<=5
 k1:x.kd=1->(0<=x.no/\x.no<n)/\(0<=x.lv/\x.lv<=64)/\x.xs=[]/\x.num=0/\x.den=0
 k2:x.kd=2->x.no=0/\x.lv=0/\x.xs=[]/\FrV ⟨x.num,x.den⟩
 k3:x.kd=3->x.no=0/\x.lv=0/\(0<x.xs.length/\x.xs.length<=64)/\y7 x.xs n/\FrV ⟨x.num,x.den⟩
 k4:x.kd=4->x.no=0/\(0<=x.lv/\x.lv<=64)/\x.xs=[]/\x.num=0/\x.den=0
 k5:x.kd=5->x.no=0/\(0<=x.lv/\x.lv<=64)/\(0<x.xs.length/\x.xs.length<=64)/\y7 x.xs n/\x.num=0/\x.den=0
def ao6(nd:Int)(es:List Pt)(x:AlV):Prop:=
 if x.kd=1 then x.lv<=e_ (G5 nd es) x.no else if x.kd=2 then cp5 nd es x.num x.den else if x.kd=3 then 0<=ak2 (Z6 nd es x.xs) ⟨x.num,x.den⟩
 else if x.kd=4 then ∃t∈z8 nd es,x.lv<=t else ∀y∈x.xs,y∈bi4 nd es (e_ x.xs 0) x.lv
noncomputable def U4(nd:Int)(es:List Pt)(x:AlV):Bool:= @decide (ao6 nd es x) (Classical.propDecidable _)
theorem Z2(nd:Int)(es:List Pt)(x:AlV):U4 nd es x=true↔ao6 nd es x:=by unfold U4;exact @Jw _ (Classical.propDecidable _)
def fK(kd:Int):FuncId:=if kd=1 then 144 else if kd=2 then 145 else if kd=3 then 146 else if kd=4 then 148 else 152
def gs4(kd:Int):Value:= .agg #[.bool (decide (kd=1)),.bool (decide (kd=1\/kd=4\/kd=5)),.bool (decide (kd=3\/kd=5)),.bool (decide (kd=2\/kd=3)),.func (.func (fK kd)) #[] #[]]
theorem fu8(a b c d f:Value)(w:World):(Instr.field 132 (.agg #[a,b,c,d,f]) 4).run prog w = .ok f w:=by kernel_rfl
theorem dw1(h:1<=kd/\kd<=5):T8 prog (fK kd)=true:=by
 obtain h|h|h|h|h:kd=1\/kd=2\/kd=3\/kd=4\/kd=5:=by omega
 all_goals subst h
 ·exact c_
 ·exact c_
 ·exact c_
 ·exact c_
 exact c_
section
variable {P:Program}{κ:Ctx}{N:Frm}{L:Env}{J:List Item}{d:Option Tmp}{ty:TypeId}{ps:String}{af:Array Edge}{gd:Option (Nat×Bool)}
theorem j0.eqFn{y:Operand}{U:TypeId}{f:FuncId}(hT:∀w:World,(binOp .eql T (.func (.func f) #[] #[]) .nilFunc).run P w = .ok (.bool false) w)(hx:ep L x=some (.func (.func f) #[] #[]))(hy:ep L y=some .nilFunc) :
  j0 P κ N ⟨d,.binOp .eql T x y U,ty,ps,af,gd⟩ L J (.bool false):=λa w M _=>by
 have E:(eqGuard .eql T x y (.func (.func f) #[] #[]) .nilFunc).run P w = .ok () w:=by simp [eqGuard]
 simp only [execOp,M.eval hx,M.eval hy]
 simp [E,hT w]
theorem j0.fu7{k:Nat}{v u:Value}(E:∀w:World,(Instr.field T v k).run P w = .ok u w)(M:ep L x=some v):j0 P κ N ⟨d,.field T x k,ty,ps,af,gd⟩ L J u:=λa w ha _=>by
 simp only [execOp,ha.eval M]
 simp [E w]
end
theorem go4{κ:Ctx}  :
    er prog κ 81 [e7 1] I (λr J=>r = .agg #[.bool true,.bool true,.bool false,.bool false,.func (.func 144) #[] #[]]/\I=J):=by
 refine Ce1 E9 C C ?_
 refine Aj<|Ge1 (Ah T9 C) λb1=>Aq<|Ax<|Aj<|Gm C<|Aq<|A3<|Aj<|Gr (B7 C C)<|Ga C<|Aq<|Am C (λM=>?_)<|λM=>?_
 ·refine Aj (Gr (B1 (cells:=[_,_,_,_,_]) T9 Ec dd9 C C)<|Ge0 (Fp T9) ?_)
  exact Aq<|Bq<|Bf<|Az<|Cv C T9 C mm C I Af ⟨rfl,rfl⟩
 exact absurd rfl M
theorem go3{κ:Ctx}  :
    er prog κ 81 [e7 2] I (λr J=>r = .agg #[.bool false,.bool false,.bool false,.bool true,.func (.func 145) #[] #[]]/\I=J):=by
 refine Ce1 E9 C C ?_
 refine Aj<|Ge1 (Ah T9 C) λb1=>Aq<|Ax<|Aj<|Gm C<|Aq<|A3<|Aj<|Gr (B7 C C)<|Ga C<|Aq<|Am C (λE=>?_)<|λE=>?_
 ·exact absurd E dc
 refine Aj<|Gr (B7 C C)<|Ga C<|Aq<|Am C (λM=>?_)<|λM=>?_
 ·refine Aj (Gr (B1 (cells:=[_,_,_,_,_]) T9 Ec dd9 C C)<|Ge0 (Fp T9) ?_)
  exact Aq<|Bq<|Bf<|Az<|Cv C T9 C mm C I Af ⟨rfl,rfl⟩
 exact absurd rfl M
theorem go2{κ:Ctx}  :
    er prog κ 81 [e7 3] I (λr J=>r = .agg #[.bool false,.bool false,.bool true,.bool true,.func (.func 146) #[] #[]]/\I=J):=by
 refine Ce1 E9 C C ?_
 refine Aj<|Ge1 (Ah T9 C) λb1=>Aq<|Ax<|Aj<|Gm C<|Aq<|A3<|Aj<|Gr (B7 C C)<|Ga C<|Aq<|Am C (λE=>?_)<|λE=>?_
 ·exact absurd E dc
 refine Aj<|Gr (B7 C C)<|Ga C<|Aq<|Am C (λM=>?_)<|λM=>?_
 ·exact absurd M dc
 refine Aj<|Gr (B7 C C)<|Ga C<|Aq<|Am C (λc10=>?_)<|λc10=>?_
 ·refine Aj (Gr (B1 (cells:=[_,_,_,_,_]) T9 Ec dd9 C C)<|Ge0 (Fp T9) ?_)
  exact Aq<|Bq<|Bf<|Az<|Cv C T9 C mm C I Af ⟨rfl,rfl⟩
 exact absurd rfl c10
theorem go1{κ:Ctx}  :
    er prog κ 81 [e7 4] I (λr J=>r = .agg #[.bool false,.bool true,.bool false,.bool false,.func (.func 148) #[] #[]]/\I=J):=by
 refine Ce1 E9 C C ?_
 refine Aj<|Ge1 (Ah T9 C) λb1=>Aq<|Ax<|Aj<|Gm C<|Aq<|A3<|Aj<|Gr (B7 C C)<|Ga C<|Aq<|Am C (λE=>?_)<|λE=>?_
 ·exact absurd E dc
 refine Aj<|Gr (B7 C C)<|Ga C<|Aq<|Am C (λM=>?_)<|λM=>?_
 ·exact absurd M dc
 refine Aj<|Gr (B7 C C)<|Ga C<|Aq<|Am C (λc10=>?_)<|λc10=>?_
 ·exact absurd c10 dc
 refine Aj<|Gr (B7 C C)<|Ga C<|Aq<|Am C (λc13=>?_)<|λc13=>?_
 ·refine Aj (Gr (B1 (cells:=[_,_,_,_,_]) T9 Ec dd9 C C)<|Ge0 (Fp T9) ?_)
  exact Aq<|Bq<|Bf<|Az<|Cv C T9 C mm C I Af ⟨rfl,rfl⟩
 exact absurd rfl c13
theorem go0{κ:Ctx}  :
    er prog κ 81 [e7 5] I (λr J=>r = .agg #[.bool false,.bool true,.bool true,.bool false,.func (.func 152) #[] #[]]/\I=J):=by
 refine Ce1 E9 C C ?_
 refine Aj<|Ge1 (Ah T9 C) λb1=>Aq<|Ax<|Aj<|Gm C<|Aq<|A3<|Aj<|Gr (B7 C C)<|Ga C<|Aq<|Am C (λc4=>?_)<|λc4=>?_
 ·exact absurd c4 dc
 refine Aj<|Gr (B7 C C)<|Ga C<|Aq<|Am C (λE=>?_)<|λE=>?_
 ·exact absurd E dc
 refine Aj<|Gr (B7 C C)<|Ga C<|Aq<|Am C (λc10=>?_)<|λc10=>?_
 ·exact absurd c10 dc
 refine Aj<|Gr (B7 C C)<|Ga C<|Aq<|Am C (λc13=>?_)<|λc13=>?_
 ·exact absurd c13 dc
 refine Aj<|Gr (B7 C C)<|Ga C<|Aq<|Am C (λM=>?_)<|λM=>?_
 ·refine Aj (Gr (B1 (cells:=[_,_,_,_,_]) T9 Ec dd9 C C)<|Ge0 (Fp T9) ?_)
  exact Aq<|A0 (S1 2)<|Bq<|Bf<|Az<|Cv C T9 C mm C I Af ⟨rfl,rfl⟩
 exact absurd rfl M
theorem bz1{κ:Ctx}(h:1<=kd/\kd<=5):er prog κ 81 [e7 kd] I λr J=>r=gs4 kd/\I=J:=by
 obtain h|h|h|h|h:kd=1\/kd=2\/kd=3\/kd=4\/kd=5:=by omega
 all_goals subst h
 ·exact go4
 ·exact go3
 ·exact go2
 ·exact go1
 exact go0
theorem fz5{κ:Ctx}{f:FuncId}{M:List Value}{nd:Int}{es:List Pt}{x:AlV}(h:er prog κ f M I λr J=>∃t:Bool,r = .bool t/\(t=true↔ao6 nd es x)/\I=J):er prog κ f M I λr J=>r = .bool (U4 nd es x)/\I=J:=
 h.mono λr J ⟨t,h1,E,h3⟩=>⟨by rw [h1];congr 1;rw [Lr,Z2];exact E,h3⟩
end Go.Sl
namespace Go.Sl
variable{a b c m n r:Int}
section
variable {P:Program}{κ:Ctx}{N:Frm}{L:Env}{J:List Item}{d:Option Tmp}{ty:TypeId}{ps:String}{af:Array Edge}{gd:Option (Nat×Bool)}{x y:Operand}{T U:TypeId}{k':IntKind}
theorem j0.mulW(E:ep L x=some (.int .u64 m))(hy:ep L y=some (.int .u64 n))(M:m*n % 18446744073709551616=r):j0 P κ N ⟨d,.binOp .mul T x y U,ty,ps,af,gd⟩ L J (.int .u64 r):=by
 have h:=j0.gq4 (P:=P) (κ:=κ) (N:=N) (J:=J) (d:=d) (ty:=ty) (ps:=ps) (af:=af) (gd:=gd) (T:=T) (U:=U) E hy
 rwa [N1,M] at h
theorem j0.gg3(M:ep L x=some (.int .u64 m))(E:ep L y=some (.int k' 32))(hr:m % 4294967296*4294967296=r):j0 P κ N ⟨d,.binOp .shl T x y U,ty,ps,af,gd⟩ L J (.int .u64 r):=by
 have h:=j0.gp7 (P:=P) (κ:=κ) (N:=N) (J:=J) (d:=d) (ty:=ty) (ps:=ps) (af:=af) (gd:=gd) (T:=T) (U:=U) M E (by decide)
 have e:IntKind.u64.wrap (m*2 ^ Min.min (32:Int).toNat IntKind.u64.bits)=r:=by
  rw [show Min.min (32:Int).toNat IntKind.u64.bits=32 from rfl,N1];omega
 rwa [e] at h
theorem j0.gu1{S T:TypeId}{k' q:IntKind}(hs:P.underlying S=some (.int q))(M:P.underlying T=some (.int .u64))(hx:ep L x=some (.int k' n))(E:n % 18446744073709551616=r) :
  j0 P κ N ⟨d,.convert S T x,ty,ps,af,gd⟩ L J (.int .u64 r):=by
 have h:=j0.ga4 (P:=P) (κ:=κ) (N:=N) (J:=J) (d:=d) (ty:=ty) (ps:=ps) (af:=af) (gd:=gd) hs M hx
 rwa [N1,E] at h
theorem j0.negU(M:ep L x=some (.int .u64 m))(E:(-m) % 18446744073709551616=r):j0 P κ N ⟨d,.unOp .neg T x,ty,ps,af,gd⟩ L J (.int .u64 r):=λa w ha _=>by
 subst E
 simp only [execOp,ha.eval M]
 simp [go_sem,Op.unary,Op.intArith,N1]
end
theorem fu1(E:0<=a/\a<=m)(M:0<=b/\b<=n):0<=a*b/\a*b<=m*n:=
 ⟨Nf E.1 M.1,Int.mul_le_mul E.2 M.2 M.1<|by omega⟩
theorem cd0(E x0 M y0:Int):(E*4294967296+x0)*(M*4294967296+y0)=E*M*18446744073709551616+(E*y0+x0*M)*4294967296+x0*y0:=by
 rw [Int.add_mul,Lx,Lx]
 have e1:E*4294967296*(M*4294967296)=E*M*(4294967296*4294967296):=by rw [Hk,Int.mul_left_comm 4294967296 M,←Hk]
 have e2:E*4294967296*y0=E*y0*4294967296:=Int.mul_right_comm _ _ _
 have e3:x0*(M*4294967296)=x0*M*4294967296:=(Hk _ _ _).symm
 rw [e1,e2,e3]
 omega
theorem tup2{d:Int}(E:a=c)(M:b=d):Value.tuple #[.int .u64 a,.int .u64 b] = .tuple #[.int .u64 c,.int .u64 d]:=by rw [E,M]
theorem agg2{d:Int}(E:a=c)(M:b=d):Value.agg #[.int .u64 a,.int .u64 b] = .agg #[.int .u64 c,.int .u64 d]:=by rw [E,M]
end Go.Sl
