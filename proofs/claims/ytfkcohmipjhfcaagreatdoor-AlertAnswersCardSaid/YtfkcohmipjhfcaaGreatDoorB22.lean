/- A part of the proofs of statements of this seat: contracts of functions, and the plain laws that they lean on. No conditions. -/
import Derived.Test.YtfkcohmipjhfcaaGreatDoorB21
set_option linter.unusedVariables false
set_option linter.unusedSimpArgs false
set_option linter.unusedSectionVars false
namespace Go.Sl
open Go.Proofs
set_option maxRecDepth 4000
variable{nd y:Int}{f s:List Int}
theorem dq1{es:List Pt}(M:G8 nd es)(f s:List Int):bm5 nd es f s=em (ad2 (ek nd es) (z7 f) (z7 s &&& K2 nd)):=An (λh=>h (j6.2 M))
theorem bg5{l:List Int}(E:0<=y)(M:y<64):(z7 l).getLsbD y.toNat=decide (y∈l):=by
 have h:=aa6 (i:=y.toNat) om l 0#64
 rw [show ((y.toNat:Nat):Int)=y by omega] at h
 unfold z7
 rw [h];simp
theorem fg6{es:List Pt}(hG:G8 nd es)(h:y∈bm5 nd es f s):y∈s:=by
 rw [dq1 hG] at h
 have h1:=s4.1 h
 have M:=(Y5 (ek nd es) (z7 f)<|z7 s &&& K2 nd).sub _ h1.2
 rw [Hm,Hi] at M
 have E:=Fd h
 rw [bg5 E.1 E.2,Gn] at M
 exact M.1
theorem dd6{es:List Pt}(E:G8 nd es)(M:0<=y/\y<nd)(hf:y∈f)(hs:y∈s):y∈bm5 nd es f s:=by
 have hr:=E.rng
 rw [dq1 E]
 refine s4.2 ⟨M.1,(Y5 (ek nd es) (z7 f)<|z7 s &&& K2 nd).start _ ?_⟩
 rw [Hm,Hm,bg5 M.1 om,bg5 M.1 om,D_ hf,D_ hs,K1 hr.1 hr.2 om,D_ om]
 rfl
theorem Y9{lv:Int}{es:List Pt}:y∈N0 nd es lv↔(0<=y/\y<(G5 nd es).length)/\lv<=e_ (G5 nd es) y:=by
 unfold N0;rw [cd1,Gn]
end Go.Sl
namespace Go.Sl
open Go.Proofs
set_option maxRecDepth 4000
variable{b:Nat}{lv:Value}{E f l ls out xs:List Int}{den i kd n nd nodes num v x:Int}{rows:List (BitVec 64)}{es:List Pt}
variable {κ:Ctx}{I:List Item}
attribute [local irreducible] W G V D A j0 Eff
abbrev frL:List Fr:=[⟨0,1⟩,⟨1,2⟩,⟨2,3⟩,⟨1,1⟩,⟨4,3⟩,⟨3,2⟩,⟨5,4⟩,⟨2,1⟩]
theorem gk0:∀x∈frL,FrV x:=by
 have h:∀x∈frL,0<=x.num/\x.num<=1073741824/\1<=x.den/\x.den<=1073741824/\af8 x.num x.den=1:=by decide
 exact λx M=>⟨(h x M).1,(h x M).2.1,(h x M).2.2.1,(h x M).2.2.2.1,(h x M).2.2.2.2⟩
theorem fz7:∀x∈frL,x.num<=5:=by decide
theorem cr0(hl:∀q,Sl κ (R5 b lv q::I) lv ls)(h0:0<=i)   :
    er Tryz.prog κ 46 [(pt b)] (e8 b [lv,e7 i] 125::I) (λr J=>∃y:Int×Int×Int,((r = .agg #[e7 y.1,e7 y.2.1]/\FrV ⟨y.1,y.2.1⟩/\y.1<=5)/\0<=y.2.2)/\J=[]++R5 b lv y.2.2::I):=by
 refine Ce1 Tryz.func46 C C ?_
 refine Aj<|Ge1 (Ah P0 C) λb1=>Z ?_
 refine Ge1 (Bt (α:=Fr) (cs:=[e7 0,e7 1,e7 1,e7 2,e7 2,e7 3,e7 1,e7 1,e7 4,e7 3,e7 3,e7 2,e7 5,e7 4,e7 2,e7 1]) (xs:=[⟨0,1⟩,⟨1,2⟩,⟨2,3⟩,⟨1,1⟩,⟨4,3⟩,⟨3,2⟩,⟨5,4⟩,⟨2,1⟩]) Tryz.underlying76 P0 C C dc dc C kr C C) λad=>Z ?_
 refine G.e (Ac c_ C C<|F5 ta0 (Bs (hl _) Af) om om) ?_
 rintro _ _ ⟨_,_,⟨E,M,rfl,aa,ab,rfl⟩,rfl,rfl⟩
 refine Gr (A2 (α:=Fr) (xs:=([⟨0,1⟩,⟨1,2⟩,⟨2,3⟩,⟨1,1⟩,⟨4,3⟩,⟨3,2⟩,⟨5,4⟩,⟨2,1⟩]:List Fr)) Tryz.underlying76 P0 C C A6 om<|by first|omega|(simp only [Fu,F_];omega))<|Gr (Cd (α:=Fr) (xs:=([⟨0,1⟩,⟨1,2⟩,⟨2,3⟩,⟨1,1⟩,⟨4,3⟩,⟨3,2⟩,⟨5,4⟩,⟨2,1⟩]:List Fr)) P0 C A6 om<|by first|omega|(simp only [Fu,F_];omega))<|Ge0 (Ba P0)<|Z ?_
 exact Cv C P0 C mm C (e8 b [lv,e7 M] 125::I) Ar ⟨((e_ ([⟨0,1⟩,⟨1,2⟩,⟨2,3⟩,⟨1,1⟩,⟨4,3⟩,⟨3,2⟩,⟨5,4⟩,⟨2,1⟩]:List Fr) E).num,(e_ ([⟨0,1⟩,⟨1,2⟩,⟨2,3⟩,⟨1,1⟩,⟨4,3⟩,⟨3,2⟩,⟨5,4⟩,⟨2,1⟩]:List Fr) E).den,M),⟨⟨rfl,gk0 _<|B3 (xs:=frL) om<|by show _<(8:Int);omega,fz7 _<|B3 (xs:=frL) om<|by show _<(8:Int);omega⟩,by show 0<=M;omega⟩,rfl⟩
theorem ci9{F:Item->List Item}(M:AtF I (R5 b lv i) F)(hl:∀q,Sl κ (F (R5 b lv q)) lv E)(h0:0<=i)   :
  er Tryz.prog κ 46 [(pt b)] I λr J=>∃y:Int×Int×Int,((r = .agg #[e7 y.1,e7 y.2.1]/\FrV ⟨y.1,y.2.1⟩/\y.1<=5)/\0<=y.2.2)/\J=[]++F (R5 b lv y.2.2):=
 Ea (Post:=λr (y:Int×Int×Int)=>(r = .agg #[e7 y.1,e7 y.2.1]/\FrV ⟨y.1,y.2.1⟩/\y.1<=5)/\0<=y.2.2) (Z:=λy:Int×Int×Int=>[]) (X:=λy:Int×Int×Int=>R5 b lv y.2.2) M λJ _ hF=>cr0 (λq=>(hl q).fit (hF _)) h0  
theorem dr1(h:0<=x/\x<n):y7 [x] n:=λj hj=>by
 have M:j<1:=hj
 obtain rfl:j=0:=by omega
 exact ⟨h,λh=>absurd h dc⟩
theorem cq9(hl:∀q,Sl κ (R5 b lv q::I) lv ls)(h0:0<=i)(hn:1<=nodes/\nodes<=64):er Tryz.prog κ 49 [(pt b),e7 nodes] (e8 b [lv,e7 i] 125::I) (λr J=>∃y:(Option Addr)×Nat×(List Int)×Int,((r = .slice y.1 y.2.2.1.length y.2.1/\y7 y.2.2.1 nodes/\(0<y.2.2.1.length/\(y.2.2.1.length:Int)<=nodes))/\0<=y.2.2.2)/\J=[vq 3 y.1 y.2.1 y.2.2.1]++R5 b lv y.2.2.2::I):=by
 refine Ce2 Tryz.func49 C C<|Z ?_
 refine G.e (Ac c_ C C<|gn5 ta0 (λ_=>Bs (hl _) Af) om om) ?_
 rintro _ _ ⟨_,_,⟨aa,E,M,i1,rfl,ab,ai,aj,rfl⟩,rfl,rfl⟩
 refine Z ?_
 refine Au (d:=12) C (λah=>Z ?_)<|λah=>Z ?_
 ·refine Am C (λae=>Z ?_) (λae=>Z ?_)
  ·refine G.e (Ac c_ C C<|F5 ta0 (Bs (hl _) Af) om om) ?_
   rintro _ _ ⟨_,_,⟨x5,i6,rfl,ak,an,rfl⟩,rfl,rfl⟩
   refine Ge1 (Bt (α:=Int) (cs:=[_]) (xs:=[x5]) Ab ef C C dc dc C C C C) λad=>Z ?_
   exact Ak C C (vc 3 (.slice ad 1 1) (([x5]:List Int))::e8 b [lv,e7 i6] 125::I) Ar ⟨(ad,1,([x5]:List Int),i6),⟨⟨rfl,dr1 om,by show 0<1/\((1:Nat):Int)<=nodes;omega⟩,by show 0<=i6;omega⟩,rfl⟩
  exact Ak C C (vq 3 aa E M::e8 b [lv,e7 i1] 125::I) Ar ⟨(aa,E,M,i1),⟨⟨rfl,ab,by show 0<M.length/\(M.length:Int)<=nodes;omega⟩,by show 0<=i1;omega⟩,rfl⟩
 exact Ak C C (vq 3 aa E M::e8 b [lv,e7 i1] 125::I) Ar ⟨(aa,E,M,i1),⟨⟨rfl,ab,by show 0<M.length/\(M.length:Int)<=nodes;omega⟩,by show 0<=i1;omega⟩,rfl⟩
theorem ci7{F:Item->List Item}(M:AtF I (R5 b lv i) F)(E:∀q,Sl κ (F (R5 b lv q)) lv ls)(h0:0<=i)(hn:1<=nodes/\nodes<=64):er Tryz.prog κ 49 [(pt b),e7 nodes] I λr J=>∃y:(Option Addr)×Nat×(List Int)×Int,((r = .slice y.1 y.2.2.1.length y.2.1/\y7 y.2.2.1 nodes/\(0<y.2.2.1.length/\(y.2.2.1.length:Int)<=nodes))/\0<=y.2.2.2)/\J=[vq 3 y.1 y.2.1 y.2.2.1]++F (R5 b lv y.2.2.2):=
 Ea (Post:=λr (y:(Option Addr)×Nat×(List Int)×Int)=>(r = .slice y.1 y.2.2.1.length y.2.1/\y7 y.2.2.1 nodes/\(0<y.2.2.1.length/\(y.2.2.1.length:Int)<=nodes))/\0<=y.2.2.2) (Z:=λy:(Option Addr)×Nat×(List Int)×Int=>[vq 3 y.1 y.2.1 y.2.2.1]) (X:=λy:(Option Addr)×Nat×(List Int)×Int=>R5 b lv y.2.2.2) M λJ _ hF=>cq9 (λq=>(E q).fit (hF _)) h0  hn
theorem gu8{no lv:Int}(e:kd=1)(e2:num=0)(E:den=0)(h1:0<=no/\no<n)(M:0<=lv/\lv<=64)(a:Option Addr)(c:Nat):bz9 n ⟨kd,no,lv,a,c,[],num,den⟩:=by subst e e2 E;exact al1 h1 M a c
theorem gu7(e:kd=2)(h:FrV ⟨num,den⟩)(a:Option Addr)(c:Nat):bz9 n ⟨kd,0,0,a,c,[],num,den⟩:=by subst e;exact al2 h a c
theorem gx8(e:kd=3)(E:0<xs.length/\(xs.length:Int)<=n)(hn:n<=64)(M:y7 xs n)(h:FrV ⟨num,den⟩)(a:Option Addr)(c:Nat):bz9 n ⟨kd,0,0,a,c,xs,num,den⟩:=by subst e;exact al3' ⟨E.1,by omega⟩ M h a c
theorem gu6{lv:Int}(e:kd=4)(M:0<=lv/\lv<=64)(a:Option Addr)(c:Nat):bz9 n ⟨kd,0,lv,a,c,[],0,0⟩:=by subst e;exact al4 M a c
theorem gx7{lv:Int}(e:kd=5)(h1:0<xs.length/\(xs.length:Int)<=n)(hn:n<=64)(E:y7 xs n)(M:0<=lv/\lv<=64)(a:Option Addr)(c:Nat):bz9 n ⟨kd,0,lv,a,c,xs,0,0⟩:=by subst e;exact al5 ⟨h1.1,by omega⟩ E M a c
set_option maxHeartbeats 2000000 in
theorem cj1{b:Nat}{lv:Value}{ls:List Int}{i:Int}{nodes:Int}(hl:∀q,Sl κ (R5 b lv q::I) lv ls)(h0:0<=i)(hn:1<=nodes/\nodes<=64):er Tryz.prog κ 26 [.pointer (some ⟨b,0,none⟩),e7 nodes] (e8 b [lv,e7 i] 125::I) (λr J=>∃y:AlV×Int,((r = .agg #[e7 y.1.kd,e7 y.1.no,e7 y.1.lv,.slice y.1.a y.1.xs.length y.1.c,e7 y.1.num,e7 y.1.den]/\bz9 nodes y.1/\(y.1.lv<=3/\y.1.num<=5))/\0<=y.2)/\J=[vc 3 (.slice y.1.a y.1.xs.length y.1.c) y.1.xs]++R5 b lv y.2::I):=by
 refine Ce2 Tryz.func26 C C ?_
 refine Aj (Ge1 (Ah P1 C) λb1=>Aq (Aj (Gm C (G.e (Ac c_ C C (F5 (by repeat (first|exact AtF.head _ _|apply AtF.tail)) (Bs (hl _) Af) om om)) ?_))))
 rintro _ _ ⟨_,_,⟨x2,i3,rfl,hx2,hi3,rfl⟩,rfl,rfl⟩
 refine Z ?_
 refine Ge1 (Ah P1 C) λb4=>Ge0 (Dp P1) (Z ?_)
 have hmx:(if 1<nodes then nodes else 1)=nodes:=by split<;>omega
 rw [hmx]
 refine Z ?_
 refine Am C (λc15=>Z ?_) (λc15=>Z ?_)
 ·refine G.e (Ac c_ C C (F5 (by repeat (first|exact AtF.head _ _|apply AtF.tail)) (Bs (hl _) Af) om om)) ?_
  rintro _ _ ⟨_,_,⟨x5,i6,rfl,hx5,hi6,rfl⟩,rfl,rfl⟩
  refine Gm C (G.e (Ac c_ C C (F5 (by repeat (first|exact AtF.head _ _|apply AtF.tail)) (Bs (hl _) Af) om om)) ?_)
  rintro _ _ ⟨_,_,⟨x7,i8,rfl,hx7,hi8,rfl⟩,rfl,rfl⟩
  refine Gf dv4 C (Ge0 (ck0 ef) ?_)
  refine Gf aw7 C (Ge0 (ck0 ef) (Z ?_))
  refine Ge0 (Dp P1) ?_
  exact Aq (Bq (Cv C P1 C mm C (vc 3 (.slice none ([]:List Int).length 0) ([]:List Int)::e8 b [lv,e7 i8] 125::I) (Bz (Bb (α:=Int) _ _) Ar) ⟨((⟨1+x2,x5,x7,none,0,[],0,0⟩:AlV),i8),⟨⟨rfl,(by first|exact gu8 c15 C C om om _ _|exact gu7 c24 asm _ _|exact gu6 c38 om _ _),by show x7<=3/\0<=5;omega⟩,by show 0<=i8;omega⟩,rfl⟩))
 refine Am C (λc24=>?_) (λc24=>Z ?_)
 ·refine A1 (Gm C (G.e (Ac c_ C C (ci9 (by repeat (first|exact AtF.head _ _|apply AtF.tail)) (λ_=>Bs (hl _) Af) om  )) ?_))
  rintro _ _ ⟨_,_,⟨⟨nu9,de10,i11⟩,⟨⟨rfl,hfnu9,hfnnu9⟩,hi11⟩,rfl⟩,rfl,rfl⟩
  have hi11:0<=i11:=hi11
  dsimp only at hfnu9
  dsimp only at hfnnu9
  refine Gf cp3 C (Ge0 (Eff.st (cs:=[_,_,_,_,_,_]) (vs:=[_,_]) (cs':=[_,_,_,_,_,_]) P0) (Z ?_))
  refine Ge0 (Dp P1) ?_
  exact Aq (Bq (Cv C P1 C mm C (vc 3 (.slice none ([]:List Int).length 0) ([]:List Int)::e8 b [lv,e7 i11] 125::I) (Bz (Bb (α:=Int) _ _) Ar) ⟨((⟨1+x2,0,0,none,0,[],nu9,de10⟩:AlV),i11),⟨⟨rfl,(by first|exact gu8 c15 C C om om _ _|exact gu7 c24 asm _ _|exact gu6 c38 om _ _),by show 0<=3/\nu9<=5;omega⟩,by show 0<=i11;omega⟩,rfl⟩))
 refine Am C (λc29=>Z ?_) (λc29=>Z ?_)
 ·refine G.e (Ac c_ C C (ci7 (by repeat (first|exact AtF.head _ _|apply AtF.tail)) (λ_=>Bs (hl _) Af) om  om)) ?_
  rintro _ _ ⟨_,_,⟨⟨ad12,cp13,sx14,i15⟩,⟨⟨rfl,hvsx14,hlsx14⟩,hi15⟩,rfl⟩,rfl,rfl⟩
  have hi15:0<=i15:=hi15
  dsimp only at hvsx14
  dsimp only at hlsx14
  refine Gm C (G.e (Ac c_ C C (ci9 (by repeat (first|exact AtF.head _ _|apply AtF.tail)) (λ_=>Bs (hl _) Af) om  )) ?_)
  rintro _ _ ⟨_,_,⟨⟨nu16,de17,i18⟩,⟨⟨rfl,hfnu16,hfnnu16⟩,hi18⟩,rfl⟩,rfl,rfl⟩
  have hi18:0<=i18:=hi18
  dsimp only at hfnu16
  dsimp only at hfnnu16
  refine Gf bw1 C (Ge0 (ck0 ab3) ?_)
  refine Gf cp3 C (Ge0 (Eff.st (cs:=[_,_,_,_,_,_]) (vs:=[_,_]) (cs':=[_,_,_,_,_,_]) P0) (Z ?_))
  refine Ge0 (Dp P1) ?_
  exact Aq (Bq (Cv C P1 C mm C (vc 3 (.slice ad12 sx14.length cp13) (sx14)::e8 b [lv,e7 i18] 125::I) Ar ⟨((⟨1+x2,0,0,ad12,cp13,sx14,nu16,de17⟩:AlV),i18),⟨⟨rfl,(by first|exact gx8 c29 hlsx14 hn.2 hvsx14 asm _ _|exact gx7 c43 hlsx14 hn.2 hvsx14 om _ _),by show 0<=3/\nu16<=5;omega⟩,by show 0<=i18;omega⟩,rfl⟩))
 refine Am C (λc38=>?_) (λc38=>Z ?_)
 ·refine A1 (Gm C (G.e (Ac c_ C C (F5 (by repeat (first|exact AtF.head _ _|apply AtF.tail)) (Bs (hl _) Af) om om)) ?_))
  rintro _ _ ⟨_,_,⟨x19,i20,rfl,hx19,hi20,rfl⟩,rfl,rfl⟩
  refine Gf aw7 C (Ge0 (ck0 ef) (Z ?_))
  refine Ge0 (Dp P1) ?_
  exact Aq (Bq (Cv C P1 C mm C (vc 3 (.slice none ([]:List Int).length 0) ([]:List Int)::e8 b [lv,e7 i20] 125::I) (Bz (Bb (α:=Int) _ _) Ar) ⟨((⟨1+x2,0,x19,none,0,[],0,0⟩:AlV),i20),⟨⟨rfl,(by first|exact gu8 c15 C C om om _ _|exact gu7 c24 asm _ _|exact gu6 c38 om _ _),by show x19<=3/\0<=5;omega⟩,by show 0<=i20;omega⟩,rfl⟩))
 refine Am C (λc43=>Z ?_) (λc43=>?_)
 ·refine G.e (Ac c_ C C (ci7 (by repeat (first|exact AtF.head _ _|apply AtF.tail)) (λ_=>Bs (hl _) Af) om  om)) ?_
  rintro _ _ ⟨_,_,⟨⟨ad21,cp22,sx23,i24⟩,⟨⟨rfl,hvsx23,hlsx23⟩,hi24⟩,rfl⟩,rfl,rfl⟩
  have hi24:0<=i24:=hi24
  dsimp only at hvsx23
  dsimp only at hlsx23
  refine Gm C (G.e (Ac c_ C C (F5 (by repeat (first|exact AtF.head _ _|apply AtF.tail)) (Bs (hl _) Af) om om)) ?_)
  rintro _ _ ⟨_,_,⟨x25,i26,rfl,hx25,hi26,rfl⟩,rfl,rfl⟩
  refine Gf bw1 C (Ge0 (ck0 ab3) ?_)
  refine Gf aw7 C (Ge0 (ck0 ef) (Z ?_))
  refine Ge0 (Dp P1) ?_
  exact Aq (Bq (Cv C P1 C mm C (vc 3 (.slice ad21 sx23.length cp22) (sx23)::e8 b [lv,e7 i26] 125::I) Ar ⟨((⟨1+x2,0,x25,ad21,cp22,sx23,0,0⟩:AlV),i26),⟨⟨rfl,(by first|exact gx8 c29 hlsx23 hn.2 hvsx23 asm _ _|exact gx7 c43 hlsx23 hn.2 hvsx23 om _ _),by show x25<=3/\0<=5;omega⟩,by show 0<=i26;omega⟩,rfl⟩))
 omega
theorem bs9{F:Item->List Item}(M:AtF I (R5 b lv i) F)(hl:∀q,Sl κ (F (R5 b lv q)) lv E)(h0:0<=i)(hn:1<=nodes/\nodes<=64):er Tryz.prog κ 26 [(pt b),e7 nodes] I λr J=>∃y:AlV×Int,((r = .agg #[e7 y.1.kd,e7 y.1.no,e7 y.1.lv,.slice y.1.a y.1.xs.length y.1.c,e7 y.1.num,e7 y.1.den]/\bz9 nodes y.1/\(y.1.lv<=3/\y.1.num<=5))/\0<=y.2)/\J=[vq 3 y.1.a y.1.c y.1.xs]++F (R5 b lv y.2):=
 Ea (Post:=λr (y:AlV×Int)=>(r = .agg #[e7 y.1.kd,e7 y.1.no,e7 y.1.lv,.slice y.1.a y.1.xs.length y.1.c,e7 y.1.num,e7 y.1.den]/\bz9 nodes y.1/\(y.1.lv<=3/\y.1.num<=5))/\0<=y.2) (Z:=λy:AlV×Int=>[vq 3 y.1.a y.1.c y.1.xs]) (X:=λy:AlV×Int=>R5 b lv y.2) M λJ _ hF=>cj1 (λq=>(hl q).fit (hF _)) h0  hn
structure RR (rows:List (BitVec 64)) (f l out:List Int) (i:Nat):Prop where
 nodup:out.Nodup
 inl:∀x∈out,x∈l
 start:∀x∈f,x∈l->x∈out
 rch:∀x∈out,x∈em (ad2 rows (z7 f)<|z7 l)
 closed:∀j:Nat,j<i->∀y∈l,(e_ rows<|e_ out j).getLsbD y.toNat=true->y∈out
 ile:i<=out.length
theorem P5{i:Nat}(hi:i<64):(z7 l).getLsbD i=true↔(i:Int)∈l:=by
 unfold z7;rw [aa6 hi];simp
theorem RR.begin(hl:∀x∈l,0<=x/\x<64):RR rows f l (N5 f l) 0:=by
 refine ⟨((Y7 f).imp λh=>by omega:(ofL f).Nodup).filter _,λx E=>(P4.1 E).2,λx h1 M=>P4.2 ⟨h1,M⟩,λx E=>?_,λj hj=>absurd hj<|Kd j,Le _⟩
 obtain ⟨h1,M⟩:=P4.1 E
 have:=hl x M
 rw [Cz]
 refine ⟨this.1,(Y5 _ _ _).start _ ?_⟩
 rw [Hm,Hi,P5 om,P5 om,show ((x.toNat:Nat):Int)=x by omega]
 exact ⟨h1,M⟩
theorem RR.push{i:Nat}(h:RR rows f l out i)(hl:∀x∈l,0<=x/\x<64)(hi:i<out.length){y:Int}(hy:y∈l)(hn:y∉out)(hr:(e_ rows (e_ out i)).getLsbD y.toNat=true):RR rows f l (out++[y]) i:=by
 have aa:=hl y hy
 refine ⟨?_,λx E=>?_,λx h1 h2=>Js _<|h.start x h1 h2,λx E=>?_,λj hj z hz M=>?_,by rw [A_];omega⟩
 ·rw [Nl]
  refine ⟨h.nodup,by simp,λa ha b hb=>?_⟩
  rw [Gj] at hb;subst hb
  exact λe=>hn<|e▸ha
 ·rcases Gu.1 E with h1|h1
  ·exact h.inl x h1
  rw [Gj] at h1;exact h1▸hy
 ·rcases Gu.1 E with h1|h1
  ·exact h.rch x h1
  rw [Gj] at h1;subst h1
  have hm:e_ out i∈out:=B3 om om
  obtain ⟨h2,h3⟩:=s4.1 (h.rch _ hm)
  rw [Cz]
  refine ⟨aa.1,(Y5 _ _ _).closed _ _ h3 (by rw [show (((e_ out i).toNat:Nat):Int)=e_ out i by omega];exact hr) ?_⟩
  rw [P5 om,show ((x.toNat:Nat):Int)=x by omega];exact hy
 have:=h.ile
 rw [D1 _ _ _ om] at M
 exact Js _<|h.closed j hj z hz M
theorem RR.next{i:Nat}(h:RR rows f l out i)(hi:i<out.length)(hc:∀y∈l,(e_ rows (e_ out i)).getLsbD y.toNat=true->y∈out):RR rows f l out (i+1):=
 ⟨h.nodup,h.inl,h.start,h.rch,λj hj y E M=>by
  rcases Lg j i with h1|h1
  ·exact h.closed j h1 y E M
  have e:j=i:=by omega
  subst e;exact hc y E M,by omega⟩
theorem RR.len{i:Nat}(h:RR rows f l out i)(E:∀x∈l,0<=x/\x<64):out.length<=64:=by
 have:out.length<=(K4 64).length:=H_ h.nodup λx M=>U2.2 (by have:=E x (h.inl x M);omega)
 rw [show (K4 64).length=64 by decide+kernel] at this
 exact this
theorem RR.ends{i:Nat}(h:RR rows f l out i)(hl:∀x∈l,0<=x/\x<64)(hi:out.length<=i):ofL out=em (ad2 rows (z7 f) (z7 l)):=by
 refine aj3.uniq (Y7 _) (T1 _) λx=>?_
 rw [af4]
 refine ⟨h.rch x,λhx=>?_⟩
 obtain ⟨h0,hb⟩:=s4.1 hx
 have E:=(Y5 rows (z7 f)<|z7 l).least (λj=>j<64/\(j:Int)∈out) (λj hj=>?_) (λa b aa _ hr hw=>?_) x.toNat hb
 ·rw [show ((x.toNat:Nat):Int)=x by omega] at E;exact E.2
 ·have M:j<64:=Gg λhn=>by rw [Jn _ _ om] at hj;cases hj
  rw [Hm,Hi,P5 M,P5 M] at hj
  exact ⟨M,h.start _ hj.1 hj.2⟩
 have M:b<64:=Gg λhn=>by rw [Jn _ _ om] at hw;cases hw
 rw [P5 M] at hw
 obtain ⟨j,hj,he⟩:=E1 aa.2
 refine ⟨M,h.closed j om (b:Int) hw ?_⟩
 rw [he,Hu];exact hr
theorem dt1(M:G8 nd es)(hv:0<=v/\v<nd):x∈nbG nd es v↔0<=x/\(e_ (ek nd es) v).getLsbD x.toNat=true:=by
 rw [←fh9,Cz]
 have E:=M.rng
 have hl:=M.rows.len
 have:bm4 nd es v=e_ (ek nd es) v:=by
  unfold bm4
  rw [An]
  rintro (h|h|h)
  ·omega
  ·omega
  exact h<|j6.2 M
 rw [this]
theorem dr9{M:List Pt}{k:Nat}(hG:G8 nd M)(hv:0<=v/\v<nd)(hl:∀x∈l,0<=x/\x<64)(hk:(nbG nd M v).length<=k)(h:∀m:Nat,m<k->m<(nbG nd M v).length->e_ (nbG nd M v) m∈l->e_ (nbG nd M v) m∈out) :
  ∀y∈l,(e_ (ek nd M) v).getLsbD y.toNat=true->y∈out:=λy E hr=>by
 obtain ⟨m,hm,he⟩:=E1 ((dt1 hG hv).2 ⟨(hl y E).1,hr⟩)
 have:=h m om hm
 rw [he] at this
 exact this E
theorem dj9{κ:Ctx}{I:List Item}{va vf vb:Value}{frm set:List Int}(hl:Sl κ I va es)(hf:Sl κ I vf frm)(hs:Sl κ I vb set)(hG:G8 nd es)(ak:∀x∈set,0<=x/\x<nd)(hb:es.length<=1000000)(a5:frm.length<=1000000)  :
    er Tryz.prog κ 201 [.agg #[e7 nd,va],vf,vb] I (λr J=>∃a c,r = .slice a (em<|ad2 (ek nd es) (z7 frm)<|z7 set).length c/\J=vq 3 a c (em<|ad2 (ek nd es) (z7 frm)<|z7 set)::I):=by
 have M:∀x∈set,0<=x/\x<64:=λx hx=>by have:=ak x hx;have:=hG.rng;omega
 refine Ce3 Tryz.func201 C C ?_
 refine Aj<|Ge1 (Ay (cs:=[_,_]) C C C) λb1=>Z ?_
 refine G.e (Ac c_ C C<|bk1 (Bc hf) (Bc hs) om) ?_
 rintro _ _ ⟨_,_,⟨ap,ao,rfl,rfl⟩,rfl,rfl⟩
 refine Z ?_
 refine Dl (σ:=Nat×(Option Addr)×Nat×(List Int)) (λs=>[(7,.slice s.2.1 s.2.2.2.length s.2.2.1),(8,e7 ((s.1:Nat):Int))]) (λs=>[vq 3 s.2.1 s.2.2.1 s.2.2.2]) (λs=>(RR (ek nd es) frm set s.2.2.2 s.1)) (λs=>65 - s.1) (0,ap,ao,N5 frm set) (.begin M) (hI:=(by first|exact Bi|exact Ar)) ?_
 rintro ⟨i,a,c,out⟩ hp
 dsimp only at hp ⊢
 have hR:=hp
 have a0:=hR.len M
 have az:=hR.ile
 refine Z ?_
 refine Am C (λaq=>Z ?_)<|λaq=>Z ?_
 ·refine A8 mixed (C1 8<|Z ?_)
  have hv:=ak _ (hR.inl _<|B3 (xs:=out) (i:=(i:Int)) om om)
  refine Z ?_
  refine Ds1 5<|Se C (Ac c_ C C<|ao0 (nd:=nd) (Bc hl) (e_ out i) om) ?_
  rintro _ _ ⟨_,_,⟨a3,a4,rfl,rfl⟩,rfl,rfl⟩
  refine ⟨Ar,?_⟩
  have ar:=ap6 nd es (e_ out i)
  refine Z ?_
  refine Dl (σ:=Nat×(Option Addr)×Nat×(List Int)) (λs=>[(7,.slice s.2.1 s.2.2.2.length s.2.2.1),(27,e7 ((s.1:Nat):Int))]) (λs=>[vq 3 s.2.1 s.2.2.1 s.2.2.2]) (λs=>(s.1<=(nbG nd es<|e_ out ((i:Nat):Int)).length)/\(RR (ek nd es) frm set s.2.2.2 i)/\(e_ s.2.2.2 i=(e_ out i))/\(i<s.2.2.2.length)/\(∀m:Nat,m<s.1->m<(nbG nd es<|e_ out ((i:Nat):Int)).length->e_ (nbG nd es<|e_ out ((i:Nat):Int)) (m:Int)∈set->e_ (nbG nd es<|e_ out ((i:Nat):Int)) (m:Int)∈s.2.2.2)) (λs=>(nbG nd es<|e_ out ((i:Nat):Int)).length - s.1) (0,a,c,out) (show ((0:Nat)<=(nbG nd es<|e_ out ((i:Nat):Int)).length)/\(RR (ek nd es) frm set (out:List Int) i)/\(e_ (out:List Int) i=(e_ out i))/\(i<(out:List Int).length)/\(∀m:Nat,m<(0:Nat)->m<(nbG nd es<|e_ out ((i:Nat):Int)).length->e_ (nbG nd es<|e_ out ((i:Nat):Int)) (m:Int)∈set->e_ (nbG nd es<|e_ out ((i:Nat):Int)) (m:Int)∈(out:List Int)) from ⟨om,hR,rfl,om,(λm hm=>absurd hm<|Kd m)⟩) (hI:=(by first|exact Bi|exact Ar)) ?_
  rintro ⟨k,a1,c1,aa⟩ hp
  dsimp only at hp ⊢
  obtain ⟨hk,ai,aj,aw,hd⟩:=hp
  have ay:=ai.len M
  refine Z ?_
  refine Am C (λau=>Z ?_)<|λau=>Z ?_
  ·refine Gc0 (Ac c_ C C<|ag7 (Bc hs)<|e_ (nbG nd es<|e_ out i) (k:Int)) ?_
   refine Gm C<|Au (d:=34) C (λae=>Z ?_)<|λae=>Z ?_
   ·refine D0 (B9 C C C) (Ac c_ C C<|ag7 A6<|e_ (nbG nd es<|e_ out i) (k:Int)) ?_
    rintro _ _ ⟨_,_,⟨rfl,rfl⟩,rfl,rfl⟩
    refine Z ?_
    refine Am C (λad=>Z ?_)<|λad=>Z ?_
    ·refine Ge1 (Bt (α:=Int) (cs:=[_]) (xs:=[e_ (nbG nd es<|e_ out i) (k:Int)]) Ab ef C C dc dc C C C C) λa6=>?_
     refine Ge2 (Bv (α:=Int) (e:=3) (xs:=aa) (ys:=([e_ (nbG nd es<|e_ out i) (k:Int)]:List Int)) Ab ef C C C mm A6 lcn dc C<|λ_ _=>am) λav ax=>Z ?_
     exact Bh ((k+1),(av),(ax),(aa++([e_ (nbG nd es<|e_ out i) (k:Int)]:List Int))) (by dsimp only;exact ⟨om,(ai.push M om ae ad<|by rw [aj];exact ((dt1 hG hv).1 (B3 om om)).2),(by rw [D1 _ _ _ om];exact aj),(by rw [A_];omega),(λm hm ab E=>(Lg m k).elim (λh=>Js _<|hd m h ab E) λh=>by rw [show m=k by omega];exact K_ _ C_)⟩) (hI:=by (try dsimp only);exact (by first|exact Bi|exact Ar))
    exact Bh ((k+1),(a1),(c1),(aa)) (by dsimp only;exact ⟨om,om,om,om,(λm hm ab E=>(Lg m k).elim (λh=>hd m h ab E) λh=>by rw [show m=k by omega] at E ⊢; first|exact B_.1 ad|exact absurd E ae)⟩) (hI:=by (try dsimp only);exact (by first|exact Bi|exact Ar))
   exact Bh ((k+1),(a1),(c1),(aa)) (by dsimp only;exact ⟨om,om,om,om,(λm hm ab E=>(Lg m k).elim (λh=>hd m h ab E) λh=>by rw [show m=k by omega] at E ⊢; first|exact B_.1 ad|exact absurd E ae)⟩) (hI:=by (try dsimp only);exact (by first|exact Bi|exact Ar))
  exact Bh ((i+1),(a1),(c1),(aa)) (by dsimp only;exact (ai.next aw<|by rw [aj];exact dr9 hG hv M om hd)) (hI:=by (try dsimp only);exact (by first|exact Bi|exact Ar))
 refine Gc2 (Ac c_ C C<|cq8 A6 om) λan ah=>Z ?_
 have hX:=hR.ends M om
 exact Ak C C (vq 3 an ah (em<|ad2 (ek nd es) (z7 frm)<|z7 set)::I) (by unfold vq;rw [←hX];exact Ar) ⟨an,ah,by rw [←hX],rfl⟩
theorem fi4(u:Int):z7 [u]=Q6 u:=by unfold z7;simp
theorem ga9{u:Int}(h:0<=u/\u<64):Q6 u=fy2 u.toNat:=by unfold Q6 fy2;rw [An om]
end Go.Sl
namespace Go.Sl
open Go.Proofs
set_option maxRecDepth 4000
variable{S:List Int}
theorem ff9{nd:Int}(h:0<=nd/\nd<=64){i:Nat}:(z7 S &&& K2 nd).getLsbD i=true↔((i:Int)∈S/\(i:Int)<nd):=by
 by_cases hi:i<64
 ·rw [Hm,Hi,P5 hi,K1 h.1 h.2 hi,Gn]
 rw [Jn _ _ om]
 exact ⟨λh=>absurd h dc,λh=>by omega⟩
theorem fi2{nd:Int}{es:List Pt}{v x:Int}(M:G8 nd es)(hv:0<=v/\v<nd):x∈bm5 nd es [v] S↔0<=x/\gy1 (ek nd es) (z7 S &&& K2 nd) v.toNat x.toNat:=by
 have E:=M.rng
 unfold bm5
 rw [An (by rw [j6.2 M];decide),Cz,fi4,ga9 om]
 exact and_congr_right λ_=>⟨λh=>⟨by omega,h⟩,λh=>h.2⟩
end Go.Sl
namespace Go.Sl
variable{gone:List Bool}{j:Int}{m:Nat}
def gc1(tri:List (List Pt))(i a b:Int):Prop:=(⟨a,b⟩:Pt)∈e_ tri i\/(⟨b,a⟩:Pt)∈e_ tri i
structure fp0 (tri:List (List Pt)):Prop where
 rng:∀i:Int,0<=i->i<tri.length->∀p∈e_ tri i,(0<=p.u/\p.u<tri.length/\0<=p.v/\p.v<tri.length)/\p.u≠p.v/\p.u≠i/\p.v≠i
 sym:∀i a b:Int,0<=i->i<tri.length->gc1 tri i a b->gc1 tri a i b
 dis:∀i:Int,0<=i->i<tri.length->(e_ tri i).Pairwise λp q=>p.u≠q.u/\p.u≠q.v/\p.v≠q.u/\p.v≠q.v
def W9(gone:List Bool)(p:Pt):Bool:= !e_ gone p.u && !e_ gone p.v
def ge6(tri:List (List Pt))(gone:List Bool)(i:Int):Int:=(((e_ tri i).filter (W9 gone)).length:Int)
def co7(j:Int)(p:Pt):Bool:=decide (p.u=j)||decide (p.v=j)
theorem gi9{p:Pt}{sup:List Int}(M:0<=p.u/\p.u<sup.length)(E:0<=p.v/\p.v<sup.length)(aa:p.u≠p.v)(h0:0<=j) :
  e_ (bg6 gone sup p) j=e_ sup j - if (W9 gone p&&co7 j p)=true then 1 else 0:=by
 unfold bg6 W9 co7
 by_cases hc:e_ gone p.u=false/\e_ gone p.v=false
 ·rw [By hc,hc.1,hc.2]
  rw [R1 _ p.v j _ E.1 h0 (by rw [Gd];exact E.2),R1 _ p.u p.v _ M.1 E.1 M.2,R1 _ p.u j _ M.1 h0 M.2,An aa]
  by_cases e1:p.v=j
  ·rw [By e1,e1];simp
  rw [An e1]
  by_cases e2:p.u=j
  ·rw [By e2,e2];simp
  rw [An e2];simp [e1,e2]
 rw [An hc]
 have:(!e_ gone p.u && !e_ gone p.v)=false:=by
  cases h1:e_ gone p.u<;>cases h2:e_ gone p.v<;>simp [h1,h2] at hc ⊢
 rw [this];simp
theorem cw7{n:Nat}(M:0<=j):∀(l:List Pt) (sup:List Int),sup.length=n->(∀p∈l,(0<=p.u/\p.u<n/\0<=p.v/\p.v<n)/\p.u≠p.v)->
  e_ (l.foldl (bg6 gone) sup) j=e_ sup j - ((l.filter λp=>W9 gone p&&co7 j p).length:Int)
 |[],sup,_,_=>by simp
 |p::l,sup,hs,h=>by
  obtain ⟨⟨h1,h2,h3,h4⟩,h5⟩:=h p C_
  rw [Jp,cw7 M l (bg6 gone sup p) (by rw [as5];exact hs)<|λq E=>h q<|Fv _ E,gi9 (by omega) (by omega) h5 M,Gw]
  by_cases hc:(W9 gone p&&co7 j p)=true
  ·rw [By hc,By hc,Fu];omega
  rw [An hc,An hc];omega
theorem bx3{α:Type}{l:List α}{P:α->Bool}(h:l.Pairwise λa b=>¬(P a=true/\P b=true)):(l.filter P).length<=1:=by
 induction l with
 |nil=>simp
 |cons x l ih=>
  obtain ⟨h1,M⟩:=Gp.1 h
  rw [Gw]
  by_cases hx:P x=true
  ·rw [By hx]
   have:l.filter P=[]:=Jc.2 λy E hp=>h1 y E ⟨hx,hp⟩
   rw [this];simp
  rw [An hx];exact ih M
theorem fp0.one{tri:List (List Pt)}(h:fp0 tri){i:Int}(h0:0<=i)(h1:i<tri.length)(P:Pt->Bool):((e_ tri i).filter λp=>P p&&co7 j p).length<=1:=by
 refine bx3<|(h.dis i h0 h1).imp fun {p q} hd=>?_
 rintro ⟨M,E⟩
 unfold co7 at M E
 simp only [Hi,Bool.or_eq_true,Gn] at M E
 obtain ⟨d1,d2,d3,d4⟩:=hd
 rcases M.2 with e|e<;>rcases E.2 with e'|e'
 ·exact d1<|by omega
 ·exact d2<|by omega
 ·exact d3<|by omega
 exact d4<|by omega
theorem de9(l:List Pt)(gone:List Bool){b:Int}(M:0<=b/\b<gone.length)(E:∀p∈l,0<=p.u/\0<=p.v):(l.filter (W9 gone)).length=(l.filter (W9 (gone.set b.toNat true))).length+(l.filter λp=>W9 gone p&&co7 b p).length:=by
 induction l with
 |nil=>rfl
 |cons p l ih=>
  have ih:=ih λq hq=>E q (Fv _ hq)
  obtain ⟨hu,hv⟩:=E p C_
  have e:W9 (gone.set b.toNat true) p=(W9 gone p && !co7 b p):=by
   unfold W9 co7
   rw [R1 _ b p.u _ M.1 hu M.2,R1 _ b p.v _ M.1 hv M.2]
   by_cases e1:b=p.u<;>by_cases e2:b=p.v
   ·rw [By e1,By e2];simp [e1.symm]
   ·rw [By e1,An e2];simp [e1.symm]
   ·rw [An e1,By e2];simp [e2.symm]
   rw [An e1,An e2]
   have a1:¬p.u=b:=λh=>e1 h.symm
   have a2:¬p.v=b:=λh=>e2 h.symm
   simp [a1,a2]
  rw [Gw,Gw,Gw,e]
  cases h1:W9 gone p<;>cases h2:co7 b p<;>simp [h1,h2]<;>omega
def fv1(tri:List (List Pt))(s:TrS):Prop:=∀j:Int,0<=j->j<tri.length->e_ s.gone j=false->e_ s.sup j=ge6 tri s.gone j
theorem fv1.start(tri:List (List Pt)):fv1 tri (ah0 tri):=λj E h1 _=>by
 have hl:∀p,W9 (List.replicate tri.length false) p=true:=λp=>by
  have M:∀i:Int,e_ (List.replicate tri.length false) i=false:=λi=>by
   unfold e_
   rw [Gs,Nu]
   split<;>rfl
  unfold W9
  rw [M,M];rfl
 show e_ (tri.map λl=>(l.length:Int)) j=_
 unfold ge6 ah0
 simp only
 rw [Kv.2 λp _=>hl p]
 obtain ⟨k,rfl⟩:=Hv E
 rw [M5 _ k (by rw [Gi];omega),M5 _ k<|by omega,Kf]
theorem fv1.step{tri:List (List Pt)}{j:Nat}{s:TrS}(hG:fp0 tri)(hs:di7 m tri.length j s)(hj:j<tri.length)(h:fv1 tri s):fv1 tri (ar8 tri s):=λi h0 h1 E=>by
 obtain ⟨b0,b1,b2⟩:=hs.gb0 hj
 unfold ar8 at E ⊢
 simp only at E ⊢
 generalize J6 s.sup s.gone tri.length=b at b0 b1 b2 E ⊢
 have ah:=hs.fz6
 rw [R1 _ b i _ b0 h0 (by omega)] at E
 have aa:b≠i:=λe=>by rw [By e] at E;cases E
 rw [An aa] at E
 have M:=λp hp=>hG.rng b b0 b1 p hp
 rw [cw7 (n:=tri.length) h0 _ _ hs.gp5 (λp hp=>⟨(M p hp).1,(M p hp).2.1⟩),h i h0 h1 E]
 have ai:=de9 (e_ tri i) s.gone (b:=b) ⟨b0,by omega⟩ (λp hp=>by have:=(hG.rng i h0 h1 p hp).1;omega)
 have c1:=hG.one b0 b1 (j:=i) (W9<|s.gone.set b.toNat true)
 have c2:=hG.one h0 h1 (j:=b) (W9 s.gone)
 have g':∀x:Int,0<=x->(e_ (s.gone.set b.toNat true) x=false↔x≠b/\e_ s.gone x=false):=λx hx=>by
  rw [R1 _ b x _ b0 hx (by omega)]
  by_cases e:b=x
  ·rw [By e];simp [e]
  rw [An e];exact ⟨λh=>⟨λh2=>e h2.symm,h⟩,λh=>h.2⟩
 have ae:((e_ tri b).filter λp=>W9 (s.gone.set b.toNat true) p&&co7 i p).length=((e_ tri i).filter λp=>W9 s.gone p&&co7 b p).length:=by
  have iff:0<((e_ tri b).filter λp=>W9 (s.gone.set b.toNat true) p&&co7 i p).length↔0<((e_ tri i).filter λp=>W9 s.gone p&&co7 b p).length:=by
   rw [List.length_pos_iff_exists_mem,List.length_pos_iff_exists_mem]
   simp only [G_,Hi,co7,W9,Bool.or_eq_true,Gn,Lu]
   constructor
   ·rintro ⟨q,hq,⟨l1,l2⟩,e⟩
    have hr:=(M q hq).1
    rw [g' _ (by omega)] at l1 l2
    have hT:∃x,gc1 tri b i x/\e_ s.gone x=false:=by
     rcases e with e|e
     ·exact ⟨q.v,.inl<|by rw [←e];exact hq,l2.2⟩
     exact ⟨q.u,.inr<|by rw [←e];exact hq,l1.2⟩
    obtain ⟨x,hT,hx⟩:=hT
    rcases hG.sym b i x b0 b1 hT with h2|h2
    ·exact ⟨_,h2,⟨b2,hx⟩,.inl rfl⟩
    exact ⟨_,h2,⟨hx,b2⟩,.inr rfl⟩
   rintro ⟨q,hq,⟨l1,l2⟩,e⟩
   have hr:=hG.rng i h0 h1 q hq
   have hT:∃x,gc1 tri i b x/\e_ s.gone x=false/\x≠b/\0<=x:=by
    rcases e with e|e
    ·exact ⟨q.v,.inl<|by rw [←e];exact hq,l2,by have:=hr.2.1;omega,by omega⟩
    exact ⟨q.u,.inr<|by rw [←e];exact hq,l1,by have:=hr.2.1;omega,by omega⟩
   obtain ⟨x,hT,hx,ad,ab⟩:=hT
   rcases hG.sym i b x h0 h1 hT with h2|h2
   ·exact ⟨_,h2,⟨(g' i h0).2 ⟨λe=>aa e.symm,E⟩,(g' x ab).2 ⟨ad,hx⟩⟩,.inl rfl⟩
   exact ⟨_,h2,⟨(g' x ab).2 ⟨ad,hx⟩,(g' i h0).2 ⟨λe=>aa e.symm,E⟩⟩,.inr rfl⟩
  omega
 unfold ge6
 rw [ae]
 omega
theorem fo1(sup:List Int)(gone:List Bool)(n:Nat):∀i:Nat,i<n->e_ gone i=false->e_ sup (J6 sup gone n)<=e_ sup i:=by
 induction n with
 |zero=>intro i hi;omega
 |succ n ih=>
  intro i hi M
  have hlt:=by5 sup gone n
  unfold J6
  by_cases hc:e_ gone n=false/\(J6 sup gone n<0\/e_ sup n<e_ sup (J6 sup gone n))
  ·rw [By hc]
   by_cases e:i=n
   ·subst e;exact Hn _
   rcases hc.2 with h|h
   ·exfalso
    have:=br8 (sup:=sup) (gone:=gone) (n:=n) ⟨i,by omega,M⟩
    omega
   have:=ih i (by omega) M;omega
  rw [An hc]
  by_cases e:i=n
  ·subst e
   have:¬e_ sup i<e_ sup (J6 sup gone i):=λh=>hc ⟨M,.inr h⟩
   omega
  exact ih i (by omega) M
theorem U6{α:Type}{P Q:α->Bool}:∀{l:List α},(∀x∈l,P x=true->Q x=true)->(l.filter P).length<=(l.filter Q).length
 |[],_=>Gk _
 |x::l,h=>by
  have ih:=U6 (P:=P) (Q:=Q) (l:=l) λy E=>h y (Fv _ E)
  have M:=h x C_
  rw [Gw,Gw]
  by_cases h1:P x=true
  ·rw [By h1,By<|M h1,Fu,Fu];omega
  rw [An h1]
  split
  ·rw [Fu];omega
  exact ih
def okT(ord num:List Int)(c:Int)(p:Pt):Bool:=decide ((p.u∈ord->c<=e_ num p.u)/\(p.v∈ord->c<=e_ num p.v))
def gq3(l:List Int)(p:Pt):Bool:=decide (p.u∉l/\p.v∉l)
structure gc6 (tri:List (List Pt)) (s:TrS):Prop where
 gone:∀x:Int,0<=x->x<tri.length->(e_ s.gone x=true↔x∈s.ord)
 rng:∀x∈s.ord,0<=x/\x<tri.length
 nodup:s.ord.Nodup
 le:∀x∈s.ord,e_ s.num x<=s.k
 asc:s.ord.Pairwise λa b=>e_ s.num a<=e_ s.num b
 later:∀pre x post,s.ord=pre++x::post->(((e_ tri x).filter (gq3<|pre++[x])).length:Int)<=e_ s.num x
 high:∀x∈s.ord,e_ s.num x<=(((e_ tri x).filter (okT s.ord s.num<|e_ s.num x)).length:Int)
 rest:∀x:Int,0<=x->x<tri.length->x∉s.ord->s.k<=(((e_ tri x).filter (okT s.ord s.num s.k)).length:Int)
theorem gc6.start(tri:List (List Pt)):gc6 tri (ah0 tri):=by
 have hz:∀i:Int,e_ (List.replicate tri.length false) i=false:=λi=>by
  unfold e_
  rw [Gs,Nu]
  split<;>rfl
 refine ⟨λx _ _=>?_,(λx h=>by cases h),List.nodup_nil,(λx h=>by cases h),List.Pairwise.nil,λE x M h=>?_,(λx h=>by cases h),λx _ _ _=>?_⟩
 ·show e_ (List.replicate tri.length false) x=true↔x∈([]:List Int)
  rw [hz];simp
 ·exact absurd h<|by show ¬([]:List Int)=_;simp
 show (0:Int)<=_;omega
theorem gc6.step{tri:List (List Pt)}{j:Nat}{s:TrS}(hG:fp0 tri)(hs:di7 m tri.length j s)(hj:j<tri.length)(hS:fv1 tri s)(h:gc6 tri s):gc6 tri (ar8 tri s):=by
 obtain ⟨b0,b1,b2⟩:=hs.gb0 hj
 have hbl:=fo1 s.sup s.gone tri.length
 unfold ar8
 generalize J6 s.sup s.gone tri.length=b at b0 b1 b2 hbl ⊢
 have hgl:=hs.fz6
 have hnl:=hs.cn5
 have hbo:b∉s.ord:=λhm=>by rw [(h.gone b b0 b1).2 hm] at b2;cases b2
 have hsb:=hS b b0 b1 b2
 generalize hK:max s.k (e_ s.sup b)=k'
 have nb:e_ (s.num.set b.toNat k') b=k':=by rw [R1 _ b b _ b0 b0 (by omega),By rfl]
 have nx:∀x:Int,0<=x->x≠b->e_ (s.num.set b.toNat k') x=e_ s.num x:=λx hx hne=>by rw [R1 _ b x _ b0 hx (by omega),An<|λe=>hne e.symm]
 have ne:∀x∈s.ord,x≠b:=λx hx e=>hbo (e▸hx)
 have hpr:=fun (x:Int) (x0:0<=x) (x1:x<tri.length) p hp=>(hG.rng x x0 x1 p hp).1
 -- what is fine stays fine
 have okm:∀(x:Int),0<=x->x<tri.length->∀c,c<=k'->((e_ tri x).filter (okT s.ord s.num c)).length<=((e_ tri x).filter (okT (s.ord++[b]) (s.num.set b.toNat k') c)).length:=λx x0 x1 c hc=>U6 λp hp hok=>by
  have hr:=hpr x x0 x1 p hp
  unfold okT at hok ⊢
  rw [Gn] at hok ⊢
  have one:∀e:Int,0<=e->(e∈s.ord->c<=e_ s.num e)->e∈s.ord++[b]->c<=e_ (s.num.set b.toNat k') e:=λe e0 he hm=>by
   by_cases e2:e=b
   ·rw [e2,nb];exact hc
   rw [nx e e0 e2]
   rcases Gu.1 hm with hm|hm
   ·exact he hm
   exact absurd (Gj.1 hm) e2
  exact ⟨one _ (by omega) hok.1,one _ (by omega) hok.2⟩
 -- what is left is fine at every level
 have live:∀(x:Int),0<=x->x<tri.length->∀c,((e_ tri x).filter (W9 s.gone)).length<=((e_ tri x).filter (okT s.ord s.num c)).length:=λx x0 x1 c=>U6 λp hp hl=>by
  have hr:=hpr x x0 x1 p hp
  unfold W9 at hl
  unfold okT
  simp only [Hi,Lu] at hl
  refine D_ ⟨λhm=>?_,λhm=>?_⟩
  ·rw [(h.gone p.u (by omega)<|by omega).2 hm] at hl;cases hl.1
  rw [(h.gone p.v (by omega)<|by omega).2 hm] at hl;cases hl.2
 have hb':k'<=(((e_ tri b).filter (okT s.ord s.num k')).length:Int):=by
  by_cases hc:s.k<=e_ s.sup b
  ·have h1:=live b b0 b1 k'
   unfold ge6 at hsb
   omega
  have h1:=h.rest b b0 b1 hbo
  rw [show k'=s.k by omega];exact h1
 refine ⟨λx x0 x1=>?_,λx hx=>?_,?_,λx hx=>?_,?_,λpre x post e=>?_,λx hx=>?_,λx x0 x1 hx=>?_⟩
 ·show e_ (s.gone.set b.toNat true) x=true↔x∈s.ord++[b]
  rw [R1 _ b x _ b0 x0 (by omega),Gu,Gj]
  by_cases e:b=x
  ·rw [By e];simp [e]
  rw [An e,h.gone x x0 x1];exact ⟨.inl,λh=>h.resolve_right λe2=>e e2.symm⟩
 ·rcases Gu.1 hx with hx|hx
  ·exact h.rng x hx
  rw [Gj.1 hx];exact ⟨b0,b1⟩
 ·exact Nl.2 ⟨h.nodup,by simp,λa ha c hc e=>by rw [Gj.1 hc] at e;exact hbo<|e▸ha⟩
 ·show e_ (s.num.set b.toNat k') x<=k'
  rcases Gu.1 hx with hx|hx
  ·rw [nx x (h.rng x hx).1 (ne x hx)];have:=h.le x hx;omega
  rw [Gj.1 hx,nb];exact Hn _
 ·refine Jl.2 ⟨Nt (fun {a c} ha hc hac=>?_) h.asc,by simp,λa ha c hc=>?_⟩
  ·rw [nx a (h.rng a ha).1 (ne a ha),nx c (h.rng c hc).1 (ne c hc)];exact hac
  rw [Gj.1 hc,nb,nx a (h.rng a ha).1 (ne a ha)];have:=h.le a ha;omega
 ·show _<=e_ (s.num.set b.toNat k') x
  have e:s.ord++[b]=pre++x::post:=e
  rcases List.eq_nil_or_concat post with rfl|⟨q,y,rfl⟩
  ·have e1:=List.append_inj' e rfl
   have e2:b=x:=by have:=e1.2;simp at this;exact this
   subst e2
   rw [nb,←e1.1]
   have hf:((e_ tri b).filter (gq3<|s.ord++[b])).length<=((e_ tri b).filter (W9 s.gone)).length:=U6 λp hp ho=>by
    have hr:=hpr b b0 b1 p hp
    unfold gq3 at ho
    unfold W9
    rw [Gn] at ho
    have one:∀e:Int,0<=e->e<tri.length->e∉s.ord++[b]->e_ s.gone e=false:=λe e0 e1 hn=>by
     cases hg:e_ s.gone e with
     |false=>rfl
     |true=>exact absurd (Js _<|(h.gone e e0 e1).1 hg) hn
    rw [one _ (by omega) (by omega) ho.1,one _ (by omega) (by omega) ho.2];rfl
   unfold ge6 at hsb
   omega
  rw [List.concat_eq_append] at e
  have e':s.ord++[b]=(pre++x::q)++[y]:=by rw [e];simp
  have e1:=List.append_inj' e' rfl
  have hx:x∈s.ord:=by rw [e1.1];simp
  rw [nx x (h.rng x hx).1 (ne x hx)]
  exact h.later pre x q e1.1
 ·show e_ (s.num.set b.toNat k') x<=(((e_ tri x).filter (okT (s.ord++[b]) (s.num.set b.toNat k')<|e_ (s.num.set b.toNat k') x)).length:Int)
  rcases Gu.1 hx with hx|hx
  ·have hr:=h.rng x hx
   rw [nx x hr.1 (ne x hx)]
   have h1:=h.high x hx
   have h2:=okm x hr.1 hr.2 (e_ s.num x) (by have:=h.le x hx;omega)
   omega
  rw [Gj.1 hx,nb]
  have h2:=okm b b0 b1 k' (Hn _)
  omega
 show k'<=(((e_ tri x).filter (okT (s.ord++[b]) (s.num.set b.toNat k') k')).length:Int)
 have hx1:x∉s.ord:=λhm=>hx (Js _ hm)
 have hgx:e_ s.gone x=false:=by
  cases hg:e_ s.gone x with
  |false=>rfl
  |true=>exact absurd ((h.gone x x0 x1).1 hg) hx1
 have h2:=okm x x0 x1 k' (Hn _)
 by_cases hc:s.k<=e_ s.sup b
 ·have h1:=live x x0 x1 k'
  have h3:=hS x x0 x1 hgx
  obtain ⟨i,rfl⟩:=Hv x0
  have h4:=hbl i (by omega) hgx
  unfold ge6 at h3
  omega
 have h1:=h.rest x x0 x1 hx1
 rw [show k'=s.k by omega] at h2 ⊢
 omega
theorem dp4{tri:List (List Pt)}(M:fp0 tri)(h:cq4 m tri):∀j,j<=tri.length->fv1 tri (az6 tri j)/\gc6 tri (az6 tri j)
 |0,_=>⟨fv1.start tri,gc6.start tri⟩
 |j+1,hj=>by
  obtain ⟨E,h2⟩:=dp4 M h j (by omega)
  have hs:=as0 h j (by omega)
  exact ⟨E.step M hs<|by omega,h2.step M hs (by omega) E⟩
structure ak6 (tri:List (List Pt)) (num ord:List Int):Prop where
 cn5:num.length=tri.length
 gi4:ord.length=tri.length
 nodup:ord.Nodup
 rng:∀x∈ord,0<=x/\x<tri.length
 asc:∀i:Nat,i+1<ord.length->e_ num (e_ ord i)<=e_ num (e_ ord ((i+1:Nat):Int))
 later:∀i:Nat,i<ord.length->(((e_ tri<|e_ ord i).filter λp=>decide<|p.u∈List.drop (i+1) ord/\p.v∈List.drop (i+1) ord).length:Int)<=e_ num (e_ ord i)
 high:∀i:Nat,i<ord.length->e_ num (e_ ord i)<=(((e_ tri<|e_ ord i).filter λp=>decide<|e_ num (e_ ord i)<=e_ num p.u/\e_ num (e_ ord i)<=e_ num p.v).length:Int)
theorem gf5{tri:List (List Pt)}(hG:fp0 tri)(h:cq4 m tri):ak6 tri (bd4 tri) (U0 tri):=by
 have hs:=as0 h tri.length (Gk _)
 obtain ⟨_,M⟩:=dp4 hG h tri.length (Gk _)
 have ad:(U0 tri).length=tri.length:=hs.gi4
 have E:∀x:Int,0<=x->x<tri.length->x∈U0 tri:=λx x0 x1=>by
  have hc:=hs.cnt
  have h0:(az6 tri tri.length).gone.count false=0:=by omega
  refine (M.gone x x0 x1).1 ?_
  cases hg:e_ (az6 tri tri.length).gone x with
  |true=>rfl
  |false=>
   exfalso
   have hm:=at_mem (xs:=(az6 tri tri.length).gone) x0 (by have:=hs.fz6;omega)
   rw [hg] at hm
   have:=Mg.2 hm
   omega
 have ae:=fun (x:Int) (hx:x∈U0 tri) p hp=>(hG.rng x (M.rng x hx).1 (M.rng x hx).2 p hp).1
 refine ⟨hs.cn5,ad,M.nodup,M.rng,λi hi=>?_,λi hi=>?_,λi hi=>?_⟩
 ·rw [M5 _ i (by omega),M5 _ (i+1) hi]
  exact (Ho.1 M.asc) i (i+1) (by show i<(U0 tri).length;omega) hi<|by omega
 ·have ab:U0 tri=(U0 tri).take i++e_ (U0 tri) i::(U0 tri).drop (i+1):=by
   rw [M5 _ i hi,←Hp hi,Mm]
  have h1:=M.later _ _ _ ab
  refine Lj (Int.ofNat_le.2<|U6 λp hp ho=>?_) h1
  unfold gq3
  rw [Gn] at ho ⊢
  have hn:=M.nodup
  have aa:(U0 tri).Nodup:=hn
  rw [ab] at aa
  have hd:=(Nl.1 aa)
  have one:∀e,e∈List.drop (i+1) (U0 tri)->e∉(U0 tri).take i++[e_ (U0 tri) i]:=λe he hm=>by
   rcases Gu.1 hm with hm|hm
   ·exact hd.2.2 e hm e (Fv _ he) rfl
   rw [Gj.1 hm] at he
   exact (Kt.1 hd.2.1).1 he
  exact ⟨one _ ho.1,one _ ho.2⟩
 have hx:=at_mem (xs:=U0 tri) (i:=(i:Int)) (by omega) (by omega)
 refine Lj (M.high _ hx)<|Int.ofNat_le.2<|U6 λp hp ho=>?_
 have hr:=ae _ hx p hp
 unfold okT at ho
 rw [Gn] at ho ⊢
 exact ⟨ho.1<|E _ (by omega)<|by omega,ho.2<|E _ (by omega)<|by omega⟩
end Go.Sl
namespace Go.Sl
end Go.Sl
namespace Go.Sl
open Go.Proofs
set_option maxRecDepth 4000
end Go.Sl
namespace Go.Sl
open Go
end Go.Sl
namespace Go.Sl
open Go.Proofs
set_option maxRecDepth 4000
section
variable {nd:Int}{es:List Pt}{X S Y:List Int}{v:Int}
theorem N7(u v:Int):F7 u v=F7 v u:=by
 unfold F7
 rcases Np u v with h|h|h
 ·rw [An om,By h,By h,An om]
 ·subst h;rfl
 rw [By h,An om,An om,By h]
end
section
variable {nd:Int}{es:List Pt}
theorem Z5{a b c d:Int}(h:F7 a b=F7 c d):(a=c/\b=d)\/(a=d/\b=c):=by
 unfold F7 at h
 rw [Pt.ag4] at h
 simp only at h
 obtain ⟨E,M⟩:=h
 repeat (first|omega|split at E|split at M)
theorem M6{e:Pt}(h:e.u<e.v):F7 e.u e.v=e:=by
 unfold F7
 rw [An om,By h]
theorem af5(M:G8 nd es){u v w:Int}(h:u≠v):w∈s3 nd es u v↔F7 u w∈es/\F7 v w∈es:=by
 have E:∀x:Int,w∈nbG nd es x↔F7 x w∈es:=λx=>by
  unfold nbG
  rw [An (by rw [j6.2 M];decide),af4,cn8]
  constructor
  ·rintro (h|h)
   ·have:=(M.ad7 _ h).2.1
    rw [←M6 this] at h;exact h
   have:=(M.ad7 _ h).2.1
   rw [←M6 this,N7] at h;exact h
  intro h
  have hlt:=(M.ad7 _ h).2.1
  rcases Np x w with h1|h1|h1
  ·have e:F7 x w=⟨x,w⟩:=M6 (e:=⟨x,w⟩) h1
   exact .inl<|e▸h
  ·subst h1;unfold F7 at hlt;simp at hlt
  have e:F7 x w=⟨w,x⟩:=by rw [N7];exact M6 (e:=⟨w,x⟩) h1
  exact .inr<|e▸h
 unfold s3
 rw [An h,P4,E,E]
theorem aq4(M:G8 nd es){u w:Int}(h:F7 u w∈es):u≠w:=λe=>by
 subst e
 have:=(M.ad7 _ h).2.1
 unfold F7 at this;simp at this
theorem bp7(E:G8 nd es){e:Pt}(h:e∈es):(es.idxOf e)<es.length/\e_ es ((es.idxOf e:Nat):Int)=e:=by
 have M:=Mz h
 exact ⟨M,by rw [Cj _ _ M];exact List.getElem_idxOf M⟩
theorem idx_eq(hG:G8 nd es){i:Nat}(h:i<es.length):es.idxOf (e_ es i)=i:=by
 have hm:=B3 (xs:=es) (i:=(i:Int)) om om
 obtain ⟨E,M⟩:=bp7 hG hm
 generalize es.idxOf (e_ es i)=k at E M
 have hn:=au3 hG.asc
 rw [Cj _ _ E,Cj _ i h] at M
 rcases Ls k i with h3|h3|h3
 ·exact absurd M<|(Ho.1 hn) k i E h h3
 ·exact h3
 exact absurd M.symm<|(Ho.1 hn) i k h E h3
theorem aq2(M:G8 nd es){e f:Pt}(he:e∈es)(E:f∈es)(h:es.idxOf e=es.idxOf f):e=f:=by
 rw [←(bp7 M he).2,←(bp7 M E).2,h]
theorem ct0{i:Int}(M:0<=i)(E:i<es.length):e_ (J9 nd es) i=ar3 nd es (e_ es i):=by
 obtain ⟨k,rfl⟩:=Hv M
 unfold J9
 rw [Cj _ k (by rw [Gi];omega),Cj _ k om,Kf]
theorem as3(E:G8 nd es){e:Pt}(he:e∈es){p:Pt}:p∈ar3 nd es e↔∃w,F7 e.u w∈es/\F7 e.v w∈es/\p=⟨((es.idxOf (F7 e.u w):Nat):Int),((es.idxOf (F7 e.v w):Nat):Int)⟩:=by
 have hlt:=(E.ad7 e he).2.1
 unfold ar3
 rw [Ha]
 constructor
 ·rintro ⟨w,hw,rfl⟩
  obtain ⟨h1,M⟩:=(af5 E om).1 hw
  exact ⟨w,h1,M,rfl⟩
 rintro ⟨w,h1,M,rfl⟩
 exact ⟨w,(af5 E om).2 ⟨h1,M⟩,rfl⟩
theorem ct1(E:G8 nd es){x y w:Int}(M:F7 x y∈es)(hx:F7 x w∈es)(hy:F7 y w∈es):gc1 (J9 nd es) ((es.idxOf (F7 x y):Nat):Int) ((es.idxOf (F7 x w):Nat):Int) ((es.idxOf (F7 y w):Nat):Int):=by
 obtain ⟨h1,h2⟩:=bp7 E M
 unfold gc1
 rw [ct0 om om,h2,as3 E M,as3 E M]
 rcases Np x y with h|h|h
 ·have e:F7 x y=⟨x,y⟩:=M6 (e:=⟨x,y⟩) h
  rw [e]
  exact .inl ⟨w,hx,hy,rfl⟩
 ·exact absurd h<|aq4 E M
 have e:F7 x y=⟨y,x⟩:=by rw [N7];exact M6 (e:=⟨y,x⟩) h
 rw [e]
 exact .inr ⟨w,hy,hx,rfl⟩
theorem gr0(M:G8 nd es):fp0 (J9 nd es):=by
 have hl:(J9 nd es).length=es.length:=Gi ..
 refine ⟨λi h0 h1 p hp=>?_,λi a b h0 h1 hT=>?_,λi h0 h1=>?_⟩
 ·rw [hl] at h1
  have E:=B3 h0 h1
  have hlt:=(M.ad7 _ E).2.1
  rw [ct0 h0 h1,as3 M E] at hp
  obtain ⟨w,hu,hv,rfl⟩:=hp
  have a1:=(bp7 M hu).1
  have a2:=(bp7 M hv).1
  have n1:=aq4 M hu
  have n2:=aq4 M hv
  have hi:es.idxOf (e_ es i)=i.toNat:=by
   obtain ⟨k,rfl⟩:=Hv h0
   rw [idx_eq M om];simp
  refine ⟨by simp only;omega,λe=>?_,λe=>?_,λe=>?_⟩
  ·have:=Z5 (aq2 M hu hv<|by simp only at e;omega);omega
  ·have h3:=aq2 M hu E (by simp only at e;omega)
   rw [←M6 hlt] at h3
   have:=Z5 h3;omega
  have h3:=aq2 M hv E (by simp only at e;omega)
  rw [←M6 hlt] at h3
  have:=Z5 h3;omega
 ·rw [hl] at h1
  have E:=B3 h0 h1
  have hlt:=(M.ad7 _ E).2.1
  have hi:i=((es.idxOf (F7 (e_ es i).u (e_ es i).v):Nat):Int):=by
   rw [M6 hlt]
   obtain ⟨k,rfl⟩:=Hv h0
   rw [idx_eq M om]
  have aa:F7 (e_ es i).u (e_ es i).v∈es:=by rw [M6 hlt];exact E
  unfold gc1 at hT
  rw [ct0 h0 h1,as3 M E,as3 M E] at hT
  rcases hT with ⟨w,hu,hv,e⟩|⟨w,hu,hv,e⟩
  ·rw [Pt.ag4] at e
   obtain ⟨e1,e2⟩:=e
   simp only at e1 e2
   rw [e1,e2]
   have:=ct1 M (x:=(e_ es i).u) (y:=w) (w:=(e_ es i).v) hu aa (by rw [N7];exact hv)
   rw [N7 w,←hi] at this;exact this
  rw [Pt.ag4] at e
  obtain ⟨e1,e2⟩:=e
  simp only at e1 e2
  rw [e1,e2]
  have:=ct1 M (x:=(e_ es i).v) (y:=w) (w:=(e_ es i).u) hv (by rw [N7];exact aa) (by rw [N7];exact hu)
  rw [N7 w,N7 (e_ es i).v (e_ es i).u,←hi] at this;exact this
 rw [hl] at h1
 have E:=B3 h0 h1
 have hlt:=(M.ad7 _ E).2.1
 rw [ct0 h0 h1]
 unfold ar3
 have ab:(s3 nd es (e_ es i).u (e_ es i).v).Pairwise (λx0 x1:Int=>x0<x1):=by
  unfold s3;split
  ·exact List.Pairwise.nil
  unfold N5;exact (Y7 _).sublist Jo
 refine List.pairwise_map.2<|Nt (fun {w z} hw hz ad=>?_) ab
 obtain ⟨w1,w2⟩:=(af5 M om).1 hw
 obtain ⟨z1,z2⟩:=(af5 M om).1 hz
 have q1:=aq4 M w1
 have q2:=aq4 M w2
 have q3:=aq4 M z1
 have q4:=aq4 M z2
 refine ⟨λe=>?_,λe=>?_,λe=>?_,λe=>?_⟩
 ·have:=Z5 (aq2 M w1 z1<|by simp only at e;omega);omega
 ·have:=Z5 (aq2 M w1 z2<|by simp only at e;omega);omega
 ·have:=Z5 (aq2 M w2 z1<|by simp only at e;omega);omega
 have:=Z5 (aq2 M w2 z2<|by simp only at e;omega);omega
end
end Go.Sl
