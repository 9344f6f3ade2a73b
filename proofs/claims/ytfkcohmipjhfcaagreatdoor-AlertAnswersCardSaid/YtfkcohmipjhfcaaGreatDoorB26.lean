/- A part of the proofs of statements of this seat: contracts of functions, and the plain laws that they lean on. No conditions. -/
import Derived.Test.YtfkcohmipjhfcaaGreatDoorB25
set_option linter.unusedVariables false
set_option linter.unusedSimpArgs false
set_option linter.unusedSectionVars false
open Go.Proofs.Tryz (prog)
open List (replicate)
set_option maxHeartbeats 2000000
namespace Go.Sl
open Go.Proofs
set_option maxRecDepth 4000
variable{bs ec m v:Nat}{a b c s sB:BitVec 64}{den i lv n num u:Int}{es:List Pt}{va vb:Value}{ea:Option Addr}{ls:List Int}
theorem dt8{m:BitVec 64}{x:Int}(h:x∈em m):0<=x/\x<64:=Fd h
theorem cw9{m:BitVec 64}(h:m≠0#64):em m≠[]:=by rw [Q9 h];exact List.cons_ne_nil _ _
abbrev R4(m:Nat):BitVec 64:=BitVec.ofNat 64 m
theorem af2(h:m<4611686018427387904):(R4 m).toNat=m:=by unfold R4;rw [BitVec.toNat_ofNat];exact Kl om
theorem dz0(h:a.toNat<9223372036854775808):bits .and .i64 (a.toNat:Int) (c.toNat:Int)=((a &&& c).toNat:Int):=by
 have M:(a &&& c).toNat<=a.toNat:=by rw [Ja];exact Nat.and_le_left
 unfold bits
 show IntKind.i64.wrap ((BitVec.ofInt 64 (a.toNat:Int) &&& BitVec.ofInt 64 (c.toNat:Int)).toNat:Int)=_
 rw [show BitVec.ofInt 64 (a.toNat:Int)=a from aa2 a,show BitVec.ofInt 64 (c.toNat:Int)=c from aa2 c,IntKind.wrap_i64]
 omega
section
variable {P:Program}{κ:Ctx}{N:Frm}{L:Env}{J:List Item}{d:Option Tmp}{ty:TypeId}{ps:String}{af:Array Edge}{gd:Option (Nat×Bool)}{x y:Operand}{T U:TypeId}{k':IntKind}
theorem j0.fo4{m:Int}(hx:ep L x=some (e7 m))(hy:ep L y=some (e7 n))(E:m=((a.toNat:Nat):Int))(hn:n=((c.toNat:Nat):Int))(h:a.toNat<9223372036854775808):j0 P κ N ⟨d,.binOp .and T x y U,ty,ps,af,gd⟩ L J (e7 (((a &&& c).toNat:Nat):Int)):=λaa w M _=>by
 subst E hn
 simp only [execOp,M.eval hx,M.eval hy]
 simp [go_sem,dz0 h]
theorem j0.ff7{m:Int}(hx:ep L x=some (e7 m))(hy:ep L y=some (.int k' n))(M:m=((a.toNat:Nat):Int))(E:0<=n)(h1:n<64):j0 P κ N ⟨d,.binOp .shr T x y U,ty,ps,af,gd⟩ L J (e7 (((a >>> n.toNat).toNat:Nat):Int)):=by
 subst M
 have h:=j0.gg2 (P:=P) (κ:=κ) (N:=N) (J:=J) (d:=d) (ty:=ty) (ps:=ps) (af:=af) (gd:=gd) (T:=T) (U:=U) hx hy E
 have e:((a.toNat:Nat):Int).fdiv (2 ^ Min.min n.toNat IntKind.i64.bits)=(((a >>> n.toNat).toNat:Nat):Int):=by
  rw [show Min.min n.toNat IntKind.i64.bits=n.toNat by show Min.min n.toNat 64=_;omega,Kz _<|Nd dc,Hh,Hj,Int.natCast_ediv,Int.natCast_pow];rfl
 rwa [e] at h
theorem j0.shl1(E:ep L x=some (e7 1))(hy:ep L y=some (.int k' n))(h0:0<=n)(h1:n<=20):j0 P κ N ⟨d,.binOp .shl T x y U,ty,ps,af,gd⟩ L J (e7 ((2 ^ n.toNat:Nat):Int)):=by
 have h:=j0.gp7 (P:=P) (κ:=κ) (N:=N) (J:=J) (d:=d) (ty:=ty) (ps:=ps) (af:=af) (gd:=gd) (T:=T) (U:=U) E hy h0
 have e:IntKind.i64.wrap ((1:Int)*2 ^ Min.min n.toNat IntKind.i64.bits)=((2 ^ n.toNat:Nat):Int):=by
  have M:(2:Nat) ^ n.toNat<=2 ^ 20:=Jx dc om
  rw [show Min.min n.toNat IntKind.i64.bits=n.toNat by show Min.min n.toNat 64=_;omega,Int.one_mul,IntKind.wrap_i64,show (2:Int) ^ n.toNat=((2 ^ n.toNat:Nat):Int) by rw [Int.natCast_pow];rfl]
  generalize 2 ^ n.toNat=q at M ⊢
  omega
 rwa [e] at h
end
attribute [local irreducible] W G V D A j0 Eff
theorem fg9(h:0<b.toNat):((b.toNat:Nat):Int) - 1=(((b - 1#64).toNat:Nat):Int):=by
 rw [BitVec.toNat_sub,show (1#64).toNat=1 from rfl]
 have:=b.isLt
 omega
theorem pred_le:(b &&& (b - 1#64)).toNat<=b.toNat:=by rw [Ja];exact Nat.and_le_left
theorem dr8(h:0<b.toNat):b≠0#64:=λe=>by rw [e] at h;simp at h
theorem by4:((s >>> v) &&& 1#64).toNat=if s.getLsbD v=true then 1 else 0:=by
 rw [Ja,show (1#64).toNat=1 from rfl,Ky,Hh]
 have:s.getLsbD v=(s.toNat >>> v).testBit 0:=by rw [Nat.testBit_shiftRight,Kw];rfl
 rw [this,Nat.testBit_zero]
 by_cases h:s.toNat >>> v % 2=1
 ·simp [h]
 have:s.toNat >>> v % 2=0:=by omega
 simp [this]
theorem ff6(h:(s >>> v).toNat=0)(i:Nat)(hi:v<=i):s.getLsbD i=false:=by
 have e:s >>> v=0#64:=Lb h
 have:=Fz (λb=>BitVec.getLsbD b<|i - v) e
 simp only [BitVec.getLsbD_ushiftRight,BitVec.getLsbD_zero] at this
 rwa [show v+(i - v)=i by omega] at this
theorem cc0(hs:s.toNat<4611686018427387904)(h:0<(s >>> v).toNat):v<62:=Nat.not_le.1 λM=>by
 rw [Hh,Hj] at h
 have E:(2:Nat) ^ 62<=2 ^ v:=Jx dc M
 rw [Nat.div_eq_of_lt om] at h;omega
theorem cu3(hv:v<64):(em s).filter (λx=>decide (x<((v+1:Nat):Int)))=(em s).filter (λx=>decide (x<(v:Int)))++(if s.getLsbD v=true then [(v:Int)] else []):=by
 refine aj3.uniq ((T1 s).sublist Jo) ?_ λx=>?_
 ·rw [Jl]
  refine ⟨(T1 s).sublist Jo,by split<;>simp,λa ha b E=>?_⟩
  have M:=Gc (G_.1 ha).2
  split at E
  ·rw [Gj] at E;omega
  cases E
 rw [Gu,G_,G_,Gn,Gn,Cz]
 constructor
 ·rintro ⟨⟨h0,M⟩,h2⟩
  by_cases e:x<(v:Int)
  ·exact .inl ⟨⟨h0,M⟩,e⟩
  have e2:x=(v:Int):=by omega
  rw [e2,Hu] at M
  rw [By M,e2];exact .inr C_
 rintro (⟨M,h2⟩|h)
 ·exact ⟨M,by omega⟩
 split at h
 ·rename_i E
  rw [Gj] at h
  rw [h,Hu]
  exact ⟨⟨by omega,E⟩,by omega⟩
 cases h
theorem fx5(h:(s >>> v).toNat=0):(em s).filter (λx=>decide (x<(v:Int)))=em s:=Kv.2 λx hx=>by
 obtain ⟨h0,M⟩:=s4.1 hx
 refine D_<|Int.not_le.1 λE=>?_
 rw [ff6 h x.toNat om] at M;cases M
def au0(s:BitVec 64)(es:List Pt):Int:=((es.filter λe=>s.getLsbD e.u.toNat&&s.getLsbD e.v.toNat).length:Int)
theorem dy3{k:Nat}(h:k<es.length):au0 s (es.take (k+1))=au0 s (es.take k)+(((s >>> (e_ es k).u.toNat) &&& (s >>> (e_ es k).v.toNat) &&& 1#64).toNat:Int):=by
 have e:((s >>> (e_ es k).u.toNat) &&& (s >>> (e_ es k).v.toNat) &&& 1#64).toNat=if (s.getLsbD (e_ es k).u.toNat&&s.getLsbD (e_ es k).v.toNat)=true then 1 else 0:=by
  have E:=by4 (s:=s) (v:=(e_ es k).u.toNat)
  have M:=by4 (s:=s) (v:=(e_ es k).v.toNat)
  rw [Ja,show (1#64).toNat=1 from rfl,Ky] at E M ⊢
  rw [Ja]
  have h3:∀x y:Nat,(x &&& y) % 2=(x % 2) &&& (y % 2):=λx y=>by
   rw [←Ky,←Ky,←Ky]
   apply Nat.eq_of_testBit_eq
   intro i
   simp only [Nat.testBit_and]
   cases x.testBit i<;>cases y.testBit i<;>cases (1:Nat).testBit i<;>rfl
  rw [h3,E,M]
  cases s.getLsbD (e_ es k).u.toNat<;>cases s.getLsbD (e_ es k).v.toNat<;>rfl
 unfold au0
 rw [Cn es k h,Hc,A_,e]
 cases hb:(s.getLsbD (e_ es k).u.toNat&&s.getLsbD (e_ es k).v.toNat)<;>simp [hb]
theorem by0(s:BitVec 64)(es:List Pt):0<=au0 s es/\au0 s es<=es.length:=by
 unfold au0
 have:=Gz (λe:Pt=>s.getLsbD e.u.toNat&&s.getLsbD e.v.toNat) es
 omega
theorem gu4(b:BitVec 64):(b &&& 1#64).toNat<=1:=by rw [Ja,show (1#64).toNat=1 from rfl];exact Nat.and_le_right
theorem gw8{a b:Int}(E:0<=a/\a<=1000)(M:0<=b/\b<=1000):0<=a*b/\a*b<=1000000:=by
 have:=Int.mul_le_mul E.2 M.2 M.1 dc
 exact ⟨Nf E.1 M.1,by omega⟩
theorem fb2{κ:Ctx}{I:List Item}(hs:sB.toNat<4611686018427387904):er prog κ 126 [e7 ((sB.toNat:Nat):Int)] I (λr J=>r=e7 (((em sB).length:Nat):Int)/\I=J):=by
 refine Ce1 Tryz.func126 C C<|Z ?_
 refine Dl (σ:=(BitVec 64)×Int) (λs=>[(0,e7 ((s.1.toNat:Nat):Int)),(3,e7<|s.2)]) (λ_=>[]) (λs=>(s.2+(em s.1).length=(em sB).length)/\(s.1.toNat<=sB.toNat)/\(0<=s.2)) (λs=>(em s.1).length) (sB,0) (show ((0:Int)+(em (sB:BitVec 64)).length=(em sB).length)/\((sB:BitVec 64).toNat<=sB.toNat)/\(0<=(0:Int)) from ⟨om,om,om⟩) ?_
 rintro ⟨M,q⟩ hp
 dsimp only at hp ⊢
 obtain ⟨hq,hb,ab⟩:=hp
 have aa:=Ee sB
 refine Z ?_
 refine Am C (λc5=>Z ?_)<|λc5=>Z ?_
 ·refine Gr (j0.fo4 (a:=M) (c:=M - 1#64) C C C (fg9 om) om) (Z ?_)
  have E:=Fz List.length (Q9<|dr8 (b:=M) om)
  rw [Fu] at E
  have ad:=pred_le (b:=M)
  exact Bh ((M &&& (M - 1#64)),(q+1))<|by dsimp only;exact ⟨om,om,om⟩
 have hz:M=0#64:=Lb (by show M.toNat=0;omega)
 rw [hz,C5] at hq
 exact Ak C C I Af ⟨Fz e7<|by simp only [F_] at hq;omega,rfl⟩
theorem bs3{κ:Ctx}{I:List Item}(m:Nat)(h:m<4611686018427387904):er prog κ 126 [e7 (m:Int)] I λr J=>r=e7 (((em (R4 m)).length:Nat):Int)/\I=J:=by
 have:=fb2 (κ:=κ) (I:=I) (sB:=R4 m) (by rw [af2 h];exact h)
 rwa [af2 h] at this
theorem fq1{κ:Ctx}{I:List Item}(hs:sB.toNat<4611686018427387904):er prog κ 127 [e7 ((sB.toNat:Nat):Int)] I (λr J=>∃a c,r = .slice a (em sB).length c/\J=vq 3 a c (em sB)::I):=by
 refine Ce1 Tryz.func127 C C<|Z ?_
 refine Dl (σ:=Nat×(Option Addr)×Nat×(List Int)) (λs=>[(3,.slice s.2.1 s.2.2.2.length s.2.2.1),(4,e7 ((s.1:Nat):Int))]) (λs=>[vq 3 s.2.1 s.2.2.1 s.2.2.2]) (λs=>(s.1<=62)/\(s.2.2.2=(em sB).filter λx=>decide<|x<(s.1:Int))) (λs=>63 - s.1) (0,none,0,[]) (show ((0:Nat)<=62)/\(([]:List Int)=(em sB).filter λx=>decide<|x<((0:Nat):Int)) from ⟨om,(by rw [eq_comm,Jc];intro x hx;have:=dt8 hx;simp;omega)⟩) (hI:=(Bb _ _)) ?_
 rintro ⟨v,a,c,out⟩ hp
 dsimp only at hp ⊢
 obtain ⟨hv,ho⟩:=hp
 have ah:out.length<=64:=by rw [ho];exact Jt (Gz _ _) (Ee sB)
 have M:((v:Int)).toNat=v:=Hu v
 refine Z ?_
 refine Gr (C6 A7 Cs C om)<|Gr (j0.ff7 (a:=sB) C C C om om)<|Z ?_
 refine Am C (λc9=>Z ?_)<|λc9=>Z ?_
 ·refine Gr (C6 A7 Cs C om) (Gr (j0.ff7 (a:=sB) C C C om om)<|Gr (j0.fo4 (a:=sB >>> ((v:Int)).toNat) (c:=1#64) C C C C<|by have:=Hh sB ((v:Int)).toNat;rw [Hj] at this;have:=Nat.div_le_self sB.toNat (2 ^ ((v:Int)).toNat);omega)<|Z ?_)
  refine Am C (λaa=>Z ?_)<|λaa=>Z ?_
  ·refine Ge1 (Bt (α:=Int) (cs:=[_]) (xs:=[(v:Int)]) Ab ef C C dc dc C C C C) λai=>?_
   refine Ge2 (Bv (α:=Int) (e:=3) (xs:=out) (ys:=([(v:Int)]:List Int)) Ab ef C C C mm A6 lcn dc C<|λ_ _=>am) λae ad=>Z ?_
   have ab:=cc0 hs (v:=v) (by rw [M] at c9;omega)
   have E:=by4 (s:=sB) (v:=v)
   exact Bh ((v+1),(ae),(ad),(out++([(v:Int)]:List Int)))<|by dsimp only;exact ⟨om,(by rw [cu3 om,←ho];rw [M] at aa;by_cases hbt:sB.getLsbD v=true;(· first|(rw [By hbt];done)|(rw [By hbt] at E;omega));(· first|(rw [An hbt,Hq];done)|(rw [An hbt] at E;omega)))⟩
  have ab:=cc0 hs (v:=v) (by rw [M] at c9;omega)
  have E:=by4 (s:=sB) (v:=v)
  exact Bh ((v+1),(a),(c),(out))<|by dsimp only;exact ⟨om,(by rw [cu3 om,←ho];rw [M] at aa;by_cases hbt:sB.getLsbD v=true;(· first|(rw [By hbt];done)|(rw [By hbt] at E;omega));(· first|(rw [An hbt,Hq];done)|(rw [An hbt] at E;omega)))⟩
 have hE:out=em sB:=by rw [ho];exact fx5 (by rw [M] at c9;omega)
 subst hE
 exact Ak C C (vq 3 a c (em sB)::I) Ar ⟨a,c,rfl,rfl⟩
theorem fb5{κ:Ctx}{I:List Item}(m:Nat)(h:m<4611686018427387904):er prog κ 127 [e7 (m:Int)] I λr J=>∃a c,r = .slice a (em (R4 m)).length c/\J=vq 3 a c (em (R4 m))::I:=by
 have:=fq1 (κ:=κ) (I:=I) (sB:=R4 m) (by rw [af2 h];exact h)
 rwa [af2 h] at this
theorem dm4{κ:Ctx}{I:List Item}{nd:Int}(hl:Sl κ I va es)(E:G8 nd es)(hb:es.length<=1000)(hs:sB.toNat<4611686018427387904):er prog κ 125 [.agg #[e7 nd,va],e7 ((sB.toNat:Nat):Int)] I (λr J=>r=e7 (au0 sB es)/\I=J):=by
 have M:=E.rng
 refine Ce2 Tryz.func125 C C ?_
 refine Aj<|Ge1 (Ay (cs:=[_,_]) C C C) λb1=>Z ?_
 refine Dl (σ:=Nat×Int) (λs=>[(5,e7<|s.2),(11,e7 ((s.1:Nat):Int))]) (λ_=>[]) (λs=>(s.1<=es.length)/\(s.2=au0 sB (es.take s.1))) (λs=>es.length - s.1) (0,0) (show ((0:Nat)<=es.length)/\((0:Int)=au0 sB (es.take (0:Nat))) from ⟨om,rfl⟩) ?_
 rintro ⟨k,q⟩ hp
 dsimp only at hp ⊢
 obtain ⟨hk,hq⟩:=hp
 have aa:=by0 sB (es.take k)
 rw [Fx] at aa
 have M:=E.rng
 have ad:=λh:k<es.length=>E.at h
 have ab:=gu4 ((sB >>> ((e_ es k).u).toNat) &&& (sB >>> ((e_ es k).v).toNat))
 refine Z ?_
 refine Am C (λc12=>Z ?_)<|λc12=>Z ?_
 ·refine Ge1 (Ah H3 C) λb2=>Ge0 (Ba H3) (Z ?_)
  refine Gr (C6 A7 Cs C om)<|Gr (j0.ff7 (a:=sB) C C C om om)<|Z ?_
  refine Gr (C6 A7 Cs C om)<|Gr (j0.ff7 (a:=sB) C C C om om)<|Gr (j0.fo4 (a:=(sB >>> ((e_ es k).u).toNat)) (c:=(sB >>> ((e_ es k).v).toNat)) C C C C<|by have h1:=Hh sB ((e_ es k).u).toNat;rw [Hj] at h1;have:=Nat.div_le_self sB.toNat (2 ^ ((e_ es k).u).toNat);omega)<|Gr (j0.fo4 (a:=(sB >>> ((e_ es k).u).toNat) &&& (sB >>> ((e_ es k).v).toNat)) (c:=1#64) C C C C<|by have h9:((sB >>> ((e_ es k).u).toNat) &&& (sB >>> ((e_ es k).v).toNat)).toNat<=(sB >>> ((e_ es k).u).toNat).toNat:=(by rw [Ja];exact Nat.and_le_left);have h8:(sB >>> ((e_ es k).u).toNat).toNat<9223372036854775808:=(by have h1:=Hh sB ((e_ es k).u).toNat;rw [Hj] at h1;have:=Nat.div_le_self sB.toNat (2 ^ ((e_ es k).u).toNat);omega);omega)<|Z ?_
  exact Bh ((k+1),(q+((((sB >>> ((e_ es k).u).toNat) &&& (sB >>> ((e_ es k).v).toNat) &&& 1#64).toNat:Nat):Int)))<|by dsimp only;exact ⟨om,(by rw [dy3 om,←hq])⟩
 rw [Gb om] at hq
 exact Ak C C I Af ⟨by rw [hq],rfl⟩
theorem cs1{κ:Ctx}{I:List Item}{nd:Int}{M:Value}(hl:Sl κ I M es)(E:G8 nd es)(hb:es.length<=1000)(m:Nat)(h:m<4611686018427387904):er prog κ 125 [.agg #[e7 nd,M],e7 (m:Int)] I λr J=>r=e7 (au0 (R4 m) es)/\I=J:=by
 have:=dm4 (κ:=κ) (I:=I) (sB:=R4 m) hl E hb (by rw [af2 h];exact h)
 rwa [af2 h] at this
theorem fm5{nd:Int}(M:G8 nd es):es.length<=nd.toNat*nd.toNat:=by
 have hs:∀e∈es,e∈(List.range nd.toNat).flatMap fun (v:Nat)=>(List.range nd.toNat).map fun (u:Nat)=>(⟨(u:Int),(v:Int)⟩:Pt):=λe he=>by
  have h:=M.ad7 e he
  have hr:=M.rng
  refine L_.2 ⟨e.v.toNat,Ht.2 om,Ha.2 ⟨e.u.toNat,Ht.2 om,?_⟩⟩
  rw [Pt.ag4]
  exact ⟨by show ((e.u.toNat:Nat):Int)=e.u;omega,by show ((e.v.toNat:Nat):Int)=e.v;omega⟩
 have E:=H_ (au3 M.asc) hs
 rw [V5 _ nd.toNat (λv=>by rw [Gi,Kq])] at E
 exact E
theorem dw5{nd:Int}(M:G8 nd es)(h7:nd<=7):es.length<=1000:=by
 have h1:=fm5 M
 have E:nd.toNat*nd.toNat<=7*7:=Nat.mul_le_mul om om
 omega
theorem cn7(h:1<=m)(M:m<4611686018427387904):R4 m≠0#64:=λe=>by
 have:=Fz BitVec.toNat e
 rw [af2 M] at this;simp at this;omega
theorem fi1{n i:Nat}(h:m<2 ^ n)(hi:(R4 m).getLsbD i=true):i<n:=by
 have E:=BitVec.lt_of_getLsbD hi
 unfold R4 at hi
 rw [BitVec.getLsbD_ofNat] at hi
 simp only [E,decide_true,Bool.true_and] at hi
 exact Nat.lt_of_not_le λM=>by
  have:=Nat.testBit_lt_two_pow (Nb h<|Jx dc M)
  rw [this] at hi;cases hi
theorem fi0{nd:Int}(h0:0<=nd)(h:m<2 ^ nd.toNat):ah5 nd (R4 m):=λx E=>by
 obtain ⟨h1,M⟩:=s4.1 E
 have:=fi1 h M
 omega
theorem ff2{nd:Int}{W:BitVec 64}(E:0<=nd)(h:ah5 nd W)(M:W≠0#64):R4 W.toNat=W/\1<=W.toNat/\W.toNat<2 ^ nd.toNat:=by
 refine ⟨by unfold R4;simp,Lp λe=>M<|Lb<|by rw [e];rfl,Nat.lt_pow_two_of_testBit _ λi hi=>?_⟩
 rw [BitVec.testBit_toNat]
 cases hc:W.getLsbD i with
 |false=>rfl
 |true=>
  have:=h (i:Int) (s4.2 ⟨by omega,by rw [Hu];exact hc⟩)
  omega
structure ba1 (nd:Int) (es:List Pt) (m bs:Nat) (num den:Int):Prop where
 zero:m=1->bs=0/\num=0/\den=1
 real:1<m->(1<=bs/\bs<m)/\num=au0 (R4 bs) es/\den=((em<|R4 bs).length:Int)
 max:∀j:Nat,1<=j->j<m->au0 (R4 j) es*den<num*((em<|R4 j).length:Int)\/(au0 (R4 j) es*den=num*((em<|R4 j).length:Int)/\(em<|R4 j).length<=(em<|R4 bs).length)
theorem ba1.bd{nd:Int}(h:ba1 nd es m bs num den)(E:1<=m)(h7:nd<=7)(hm:m<=2 ^ nd.toNat):(0<=num/\num<=es.length)/\(1<=den/\den<=64)/\bs<2 ^ nd.toNat:=by
 have hp:2 ^ nd.toNat<=2 ^ 7:=Jx dc om
 by_cases e:m=1
 ·obtain ⟨rfl,rfl,rfl⟩:=h.zero e
  exact ⟨by omega,by omega,Nat.pow_pos dc⟩
 obtain ⟨M,rfl,rfl⟩:=h.real om
 have E:=by0 (R4 bs) es
 have h2:=Ee (R4 bs)
 have h3:=Ku.2 (cw9<|cn7 (m:=bs) M.1 om)
 omega
theorem ba1.take{nd:Int}(h:ba1 nd es m bs num den)(h1:1<=m)(hm:m<4611686018427387904)(hd:1<=den)
  (E:num*((em<|R4 m).length:Int)<au0 (R4 m) es*den\/(au0 (R4 m) es*den=num*((em<|R4 m).length:Int)/\(em<|R4 bs).length<=(em<|R4 m).length)):ba1 nd es (m+1) m (au0 (R4 m) es) ((em<|R4 m).length:Int):=by
 have hs:=Ku.2 (cw9<|cn7 (m:=m) h1 hm)
 refine ⟨λe=>by omega,λ_=>⟨by omega,rfl,rfl⟩,λj j1 jm=>?_⟩
 by_cases e:j=m
 ·subst e;exact .inr ⟨rfl,Gk _⟩
 have hj:=h.max j j1 om
 have ab:(0:Int)<=((em<|R4 j).length:Int):=by omega
 generalize au0 (R4 j) es=a at hj ⊢
 generalize hq:((em<|R4 j).length:Int)=q at hj ab ⊢
 generalize au0 (R4 m) es=b at E ⊢
 generalize hp:((em<|R4 m).length:Int)=p at E ⊢
 have ai:1<=p:=by omega
 have ad:∀x y:Int,x*p*den=(x*den)*p:=λx y=>by rw [Hk,Hz p den,←Hk]
 have k1:=ad a 0
 have k2:b*q*den=(b*den)*q:=by rw [Hk,Hz q den,←Hk]
 have k3:(num*q)*p=(num*p)*q:=by rw [Hk,Hz q p,←Hk]
 have M:a*p*den<b*q*den->a*p<b*q:=λhh=>Int.lt_of_mul_lt_mul_right hh om
 have aa:a*p*den=b*q*den->a*p=b*q:=λhh=>Int.eq_of_mul_eq_mul_right om hh
 rcases hj with hj|⟨hj,ah⟩
 ·have h3:=M_ hj (show (0:Int)<p by omega)
  rcases E with E|⟨E,_⟩
  ·have h4:=Kn (Int.le_of_lt E) ab
   exact .inl<|M om
  rw [E] at k2
  exact .inl<|M om
 rw [hj] at k1
 rcases E with E|⟨E,ae⟩
 ·by_cases hq0:q=0
  ·subst hq0
   exact .inr ⟨aa<|by rw [k1,k2,k3];simp,by omega⟩
  have h4:=M_ E (show (0:Int)<q by omega)
  exact .inl<|M om
 rw [E] at k2
 exact .inr ⟨aa om,by omega⟩
theorem ba1.fe4{nd:Int}(h:ba1 nd es m bs num den)(h1:1<=m)(hm:m<4611686018427387904)
  (E:¬num*((em<|R4 m).length:Int)<au0 (R4 m) es*den) (M:au0 (R4 m) es*den=num*((em<|R4 m).length:Int)->¬((em<|R4 bs).length:Int)<=((em<|R4 m).length:Int)):ba1 nd es (m+1) bs num den:=by
 refine ⟨λe=>by omega,λ_=>?_,λj j1 jm=>?_⟩
 ·by_cases e:m=1
  ·obtain ⟨rfl,rfl,rfl⟩:=h.zero e
   exfalso
   have hz:em (R4 0)=[]:=by show em 0#64=[];exact C5
   have h0:=by0 (R4 m) es
   rw [hz] at M
   rw [Mc,Int.mul_one] at E M
   exact M om<|by simp
  obtain ⟨h2,h3⟩:=h.real om
  exact ⟨by omega,h3⟩
 by_cases e:j=m
 ·subst e
  by_cases e2:au0 (R4 j) es*den=num*((em<|R4 j).length:Int)
  ·have:=M e2
   exact .inr ⟨e2,by omega⟩
  exact .inl om
 exact h.max j j1 om
theorem ba1.gb0{nd:Int}(hG:G8 nd es)(h7:nd<=7)(h:ba1 nd es (2 ^ nd.toNat) bs num den):cs5 nd es (mkF num den).num (mkF num den).den (R4 bs):=by
 have hr:=hG.rng
 have hp:2 ^ nd.toNat<=2 ^ 7:=Jx dc om
 refine ⟨λe=>absurd (j6.2 hG) e,λ_ h0=>?_,λ_ h0=>?_⟩
 ·subst h0
  obtain ⟨rfl,rfl,rfl⟩:=h.zero rfl
  exact ⟨by decide+kernel,by decide+kernel,rfl⟩
 have h2:2<=2 ^ nd.toNat:=by
  have:2 ^ 1<=2 ^ nd.toNat:=Jx dc om
  omega
 obtain ⟨hb,hn,hd⟩:=h.real om
 have hbd:=h.bd om h7 (Gk _)
 have hm:=an2 hG
 have hmul:=ds9 (a:=num) (b:=den) hbd.1.1 om
 have hnn:=bg0 (a:=num) (b:=den) hbd.1.1 om
 have hdd:=bg1 (a:=num) (b:=den) om
 have ins:∀W,J7 W es=au0 W es:=λW=>rfl
 have cnt:∀W,J5 W=((em W).length:Int):=λW=>rfl
 have hsm:∀W,ah5 nd W->W≠0#64->au0 W es*den<num*J5 W\/(au0 W es*den=num*J5 W/\J5 W<=J5 (R4 bs)):=λW hW hne=>by
  obtain ⟨e,e1,e2⟩:=ff2 hr.1 hW hne
  have:=h.max W.toNat e1 e2
  rw [e] at this
  rcases this with h|⟨h,h3⟩
  ·exact .inl h
  exact .inr ⟨h,by rw [cnt,cnt];omega⟩
 generalize hF:mkF num den=F at hmul hnn hdd ⊢
 -- from num / den to its lowest terms
 have conv:∀x y:Int,(F.den*x)*den=(x*den)*F.den/\(F.num*y)*den=(num*y)*F.den:=λx y=>⟨by rw [Hz F.den x,Hk,Hz F.den den,←Hk],by
  rw [Hk,Hz y den,←Hk,←hmul,Hz F.den num,Hk,Hk,Hz F.den y]⟩
 refine ⟨dg5 (fi0 hr.1 om) (cn7 hb.1 om) ?_ (λW hW hne=>?_) (λW hW hne he=>?_) om,by omega,by omega,⟨num,den,by omega,by omega,hF.symm▸rfl⟩⟩
 ·rw [ins,cnt,←hn,←hd];exact hmul
 ·obtain ⟨c1,c2⟩:=conv (au0 W es) (J5 W)
  rw [ins]
  refine Ng (a:=den) ?_ om
  rw [c1,c2]
  exact Kn (by rcases hsm W hW hne with h|h<;>omega) om
 obtain ⟨c1,c2⟩:=conv (au0 W es) (J5 W)
 rw [ins] at he
 rw [he,c2] at c1
 have:=Int.eq_of_mul_eq_mul_right (a:=F.den) om c1
 rcases hsm W hW hne with h|h
 ·omega
 exact h.2
theorem fe0{κ:Ctx}{I:List Item}{nd:Int}(hl:Sl κ I va es)(hG:G8 nd es)(h7:nd<=7):er prog κ 67 [.agg #[e7 nd,va]] I (λr J=>∃a c B N D,r = .tuple #[.slice a (em B).length c,.agg #[e7 N,e7 D],e7 0]/\cs5 nd es N D B/\J=vq 3 a c (em B)::I):=by
 have aq:=hG.rng
 have hb:=dw5 hG h7
 refine Ce1 Tryz.func67 C C ?_
 refine Aj<|Ge1 (Ay (cs:=[_,_]) C C C) λb1=>Ga C<|Ge1 (Ah P0 C) λb2=>Z ?_
 refine G.e (Ac c_ C C<|K3 (nd:=nd)<|Bc hl) ?_
 rintro _ _ ⟨_,_,⟨rfl,rfl⟩,rfl,rfl⟩
 refine Z ?_
 refine Am C (λaa=>?_)<|λaa=>Z ?_
 ·exact absurd (j6.2 hG) aa
 refine Dl (σ:=Nat×Nat×Int×Int) (λs=>[(6,e7 ((s.2.1:Nat):Int)),(7,e7<|s.2.2.1),(8,e7<|s.2.2.2),(9,e7 ((s.1:Nat):Int))]) (λ_=>[]) (λs=>(1<=s.1/\s.1<=2 ^ nd.toNat)/\(ba1 nd es s.1 s.2.1 s.2.2.1 s.2.2.2)) (λs=>2 ^ nd.toNat - s.1) (1,0,0,1) (show (1<=(1:Nat)/\(1:Nat)<=2 ^ nd.toNat)/\(ba1 nd es (1:Nat) (0:Nat) (0:Int) (1:Int)) from ⟨⟨Gk _,Nat.one_le_two_pow⟩,⟨λ_=>⟨rfl,rfl,rfl⟩,λh=>absurd h dc,λj h1 h2=>by omega⟩⟩) ?_
 rintro ⟨m,bs,num,den⟩ hp
 dsimp only at hp ⊢
 obtain ⟨M,E⟩:=hp
 have ar:2 ^ nd.toNat<=2 ^ 7:=Jx dc om
 have av:=E.bd M.1 om M.2
 refine Z ?_
 refine Gr (C6 A7 Cs C om)<|Gr (j0.shl1 C C om om)<|Z ?_
 refine Am C (λan=>Z ?_)<|λan=>Z ?_
 ·refine G.e (Ac c_ C C<|cs1 (nd:=nd) (Bc hl) hG om m om) ?_
  rintro _ _ ⟨_,_,⟨rfl,rfl⟩,rfl,rfl⟩
  have ao:=by0 (R4 m) es
  refine Gm C<|G.e (Ac c_ C C<|bs3 m om) ?_
  rintro _ _ ⟨_,_,⟨rfl,rfl⟩,rfl,rfl⟩
  have ak:=Ee (R4 m)
  have au:=gw8 (a:=au0 (R4 m) es) (b:=den) om om
  have aw:=gw8 (a:=num) (b:=(((em<|R4 m).length:Nat):Int)) om om
  refine Z ?_
  refine Gr (Eg C C<|by unfold InR;omega)<|Gm C<|Gm C<|Gr (Eg C C<|by unfold InR;omega)<|Z ?_
  refine Au (d:=38) C (λae=>Z ?_)<|λae=>Z ?_
  ·refine Bh ((m+1),(m),(au0 (R4 m) es),((((em<|R4 m).length:Nat):Int)))<|by dsimp only;exact ⟨om,(E.take M.1 om om<|by first|exact .inl asm|(refine .inr ⟨by assumption,?_⟩;omega))⟩
  refine e9 (Eg C C<|by unfold InR;omega)<|Z ?_
  refine e9 (Eg C C<|by unfold InR;omega)<|Z ?_
  refine Au (d:=46) C (λap=>Z ?_)<|λap=>Z ?_
  ·refine D0 (B9 C C C) (Ac c_ C C<|bs3 bs om) ?_
   rintro _ _ ⟨_,_,⟨rfl,rfl⟩,rfl,rfl⟩
   have ah:=Ee (R4 bs)
   refine Z ?_
   refine Am C (λai=>Z ?_)<|λai=>Z ?_
   ·refine Bh ((m+1),(m),(au0 (R4 m) es),((((em<|R4 m).length:Nat):Int)))<|by dsimp only;exact ⟨om,(E.take M.1 om om<|by first|exact .inl asm|(refine .inr ⟨by assumption,?_⟩;omega))⟩
   exact Bh ((m+1),(bs),(num),(den))<|by dsimp only;exact ⟨om,(E.fe4 M.1 om asm<|λh=>by first|assumption|exact absurd h asm)⟩
  exact Bh ((m+1),(bs),(num),(den))<|by dsimp only;exact ⟨om,(E.fe4 M.1 om asm<|λh=>by first|assumption|exact absurd h asm)⟩
 refine Gc2 (Ac c_ C C<|fb5 bs om) λab ad=>?_
 refine Gm C<|Gm C<|Gc0 (Ac c_ C C<|db0 num den (by have:=E.bd M.1 h7 M.2;omega)<|by have:=E.bd M.1 h7 M.2;omega) ?_
 refine Ga C<|Ge0 (Ba P0)<|Z ?_
 have aj:m=2 ^ nd.toNat:=by omega
 subst aj
 exact V.gg9 C P0 C C C mm C (vq 3 ab ad (em<|R4 bs)::I) (by first|exact Bi|exact Ar) ⟨ab,ad,R4 bs,(mkF num den).num,(mkF num den).den,rfl,E.gb0 hG h7,rfl⟩
variable {κ:Ctx}{I:List Item}
theorem de6{nd:Int}{S:List Int}(h:0<=nd/\nd<=64):z7 (N5 S (K4 nd))=z7 S &&& K2 nd:=by
 refine Mk λi hi=>?_
 rw [Lr,P5 hi,ff9 h,P4,U2]
 exact ⟨λh=>⟨h.1,h.2.2.1⟩,λh=>⟨h.1,by omega,h.2,by omega⟩⟩
theorem dh2{nd:Int}{x:AlV}{b:Bool}(h:b=true↔ao6 nd es x):b=U4 nd es x:=by rw [Lr,Z2];exact h
theorem fr9{nd:Int}(hl:Sl κ I va es)(hG:G8 nd es)(hb:es.length<=1000000)  :
    er prog κ 111 [.agg #[e7 nd,va],e7 lv] I (λr J=>∃a c,r = .tuple #[.slice a (N0 nd es lv).length c,e7 0]/\J=vq 3 a c (N0 nd es lv)::I):=by
 refine Ce2 Tryz.func111 C C ?_
 refine Aj<|Ge1 (Ay (cs:=[_,_]) C C C) λb1=>Z ?_
 refine G.e (Ac c_ C C<|K3 (nd:=nd)<|Bc hl) ?_
 rintro _ _ ⟨_,_,⟨rfl,rfl⟩,rfl,rfl⟩
 refine Z ?_
 refine Am C (λc10=>?_)<|λc10=>Z ?_
 ·exact absurd (j6.2 hG) c10
 refine G.e (Ac c_ C C<|ck3 (nd:=nd) (lv:=lv) (Bc hl) hG om) ?_
 rintro _ _ ⟨_,_,⟨E,M,rfl,rfl⟩,rfl,rfl⟩
 refine Z ?_
 exact B5 C C C (vq 3 E M (N0 nd es lv)::I) Bi ⟨E,M,rfl,rfl⟩
theorem fb6{nd:Int}{vd:Value}{frm set:List Int}(hl:Sl κ I va es)(hf:Sl κ I vb frm)(hs:Sl κ I vd set)(hG:G8 nd es)(hb:es.length<=1000000)(ai:frm.length<=1000000)(ad:set.length<=1000000):er prog κ 112 [.agg #[e7 nd,va],vb,vd] I (λr J=>∃a c,r = .tuple #[.slice a (bm5 nd es frm set).length c,e7 0]/\J=vq 3 a c (bm5 nd es frm set)::I):=by
 refine Ce3 Tryz.func112 C C ?_
 refine Aj<|Ge1 (Ay (cs:=[_,_]) C C C) λb1=>Z ?_
 refine G.e (Ac c_ C C<|K3 (nd:=nd)<|Bc hl) ?_
 rintro _ _ ⟨_,_,⟨rfl,rfl⟩,rfl,rfl⟩
 refine Z ?_
 refine Am C (λc12=>?_)<|λc12=>?_
 ·exact absurd (j6.2 hG) c12
 refine A4<|Al<|Ax<|A8 mixed<|Cf (e8 b1 [e7 nd,va] 48::I) 10<|Z ?_
 refine Ds1 5<|Sc2 C (Ac c_ C C<|bz0 nd) λab aa=>?_
 refine Ds1 6<|Se C (Ac c_ C C<|bk1 (Bc hs) A6 om) ?_
 rintro _ _ ⟨_,_,⟨ah,ae,rfl,rfl⟩,rfl,rfl⟩
 refine ⟨Ar,?_⟩
 refine Ds1 7<|Se C (Ac c_ C C<|dj9 (nd:=nd) (Bc hl) (Bc hf) A6 hG (λx hx=>by have:=U2.1 (P4.1 hx).2;omega) om om) ?_
 rintro _ _ ⟨_,_,⟨M,E,rfl,rfl⟩,rfl,rfl⟩
 refine ⟨Ar,?_⟩
 refine Z ?_
 have hX:(bm5 nd es frm set)=em (ad2 (ek nd es) (z7 frm)<|z7<|N5 set<|K4 nd):=by unfold bm5;rw [An (λh=>h<|j6.2 hG),de6 hG.rng]
 exact B5 C C C (vq 3 M E (bm5 nd es frm set)::I) (by unfold vq;rw [hX];exact Ar) ⟨M,E,by rw [hX],rfl⟩
theorem fs0{nd v:Int}(hl:Sl κ I va es)(hG:G8 nd es)(hb:es.length<=1000000)(hv:0<=v/\v<nd):er prog κ 60 [.agg #[e7 nd,va],e7 v,e7 lv] I (λr J=>∃a c,r = .tuple #[.slice a (bi4 nd es v lv).length c,e7 0]/\J=vq 3 a c (bi4 nd es v lv)::I):=by
 have ae:=hG.rng
 refine Ce3 Tryz.func60 C C ?_
 refine Aj<|Ge1 (Ay (cs:=[_,_]) C C C) λb1=>Z ?_
 refine G.e (Ac c_ C C<|fr9 (nd:=nd) (lv:=lv) (Bc hl) hG om) ?_
 rintro _ _ ⟨_,_,⟨ai,ah,rfl,rfl⟩,rfl,rfl⟩
 refine Z ?_
 refine Am C (λE=>?_)<|λE=>Z ?_
 ·exact absurd rfl E
 refine Au (d:=21) C (λM=>?_)<|λM=>Z ?_
 ·exact absurd M om
 refine Am C (λab=>?_)<|λab=>Z ?_
 ·exact absurd ab om
 refine Ge1 (Bt (α:=Int) (cs:=[_]) (xs:=[v]) Ab ef C C dc dc C C C C) λaj=>?_
 refine Gm C<|Gc2 (Ac c_ C C<|fb6 (nd:=nd) (frm:=([v]:List Int)) (Bc hl) A6 A6 hG om (by simp)<|by have:=cg0 nd es lv;have:=an3 hG;omega) λad aa=>Z ?_
 exact B5 C C C (vq 3 ad aa (bi4 nd es v lv)::I) Bi ⟨ad,aa,rfl,rfl⟩
theorem bk3{nd:Int}{x:AlV}(hl:Sl κ I (.slice ea es.length ec) es)(hs:Sl κ I (.slice x.a x.xs.length x.c) x.xs)(M:G8 nd es)(h7:nd<=7)(hw:AlW nd x):er prog κ 87 [.agg #[e7 nd,.slice ea es.length ec],.agg #[e7 (x.kd),e7 (x.no),e7 (x.lv),.slice x.a x.xs.length x.c,e7 (x.num),e7 (x.den)]] I (λr J=>r = .bool (U4 nd es x)/\I=J):=by
 have ar:=M.rng
 have a1:=an3 M
 have a4:=L5 M
 have hb:=dw5 M h7
 have ay:=hw.kind
 have a0:x.kd=1->0<=x.no/\x.no<nd:=λe=>(hw.k1 e).1
 have h5:x.kd=5->0<x.xs.length:=λe=>(hw.k5 e).2.2.1
 have an:x.kd=3->x.xs.length<=64:=λe=>by have:=av0 (hw.k3 e).2.2.2.1 om;omega
 refine Ce2 Tryz.func87 C C ?_
 refine Aj<|Ge1 (Ay (cs:=[_,_]) C C C) λb1=>Ge1 (Ay (cs:=[_,_,_,_,_,_]) C C C) λb2=>Z ?_
 refine Am C (λak=>Z ?_)<|λak=>Z ?_
 ·refine G.e (Ac c_ C C<|ci3 (nd:=nd) (Bc hl) M om om) ?_
  rintro _ _ ⟨_,_,⟨ao,aq,rfl,rfl⟩,rfl,rfl⟩
  refine Z ?_
  refine A8 mixed<|Cf (vq 3 ao aq (G5 nd es)::e8 b2 [e7 (x.kd),e7<|x.no,e7<|x.lv,.slice x.a x.xs.length x.c,e7<|x.num,e7<|x.den] 42::e8 b1 [e7 nd,.slice ea es.length ec] 48::I) 9<|Z ?_
  exact Ak C C I Af ⟨Fz Value.bool<|dh2<|by rw [Jw,dh3 ak],rfl⟩
 refine Am C (λad=>Z ?_)<|λad=>Z ?_
 ·refine G.e (Ac c_ C C<|fe0 (nd:=nd) (Bc hl) M om) ?_
  rintro _ _ ⟨_,_,⟨ax,a3,BB7,NN8,DD9,rfl,ah,rfl⟩,rfl,rfl⟩
  refine Z ?_
  refine Ge1 (Ah P0 C) λaz=>Ga C<|Ge0 (Ba P0)<|Z ?_
  have ai:=(hw.k2 ad).2.2.2
  refine Z ?_
  refine Gc0 (Ac c_ C C<|ck6 (⟨NN8,DD9⟩:Fr) (⟨x.num,x.den⟩:Fr) ((ah.frv M).w) asm)<|Z ?_
  exact Ak C C I Af ⟨Fz Value.bool<|dh2<|by rw [Jw,ga6 ad];exact ah.fu6 M ai,rfl⟩
 refine Am C (λE=>Z ?_)<|λE=>Z ?_
 ·refine Gc0 (Ac c_ C C<|ck2 (nd:=nd) (Bc hl) (Bc hs) om<|by have:=an;omega) (Z ?_)
  refine Ge1 (Ah P0 C) λaw=>Ge0 (Ba P0)<|Z ?_
  have ai:=(hw.k3 E).2.2.2.2
  refine Z ?_
  refine Gc0 (Ac c_ C C<|ck6 (⟨(Z6 nd es x.xs).num,(Z6 nd es x.xs).den⟩:Fr) (⟨x.num,x.den⟩:Fr) (bh7 M x.xs).w asm)<|Z ?_
  exact Ak C C I Af ⟨Fz Value.bool<|dh2<|by rw [Jw,fn2 E],rfl⟩
 refine Am C (λaa=>Z ?_)<|λaa=>Z ?_
 ·refine Gc2 (Ac c_ C C<|ci2 (nd:=nd) (Bc hl) M om) λaj ae=>Z ?_
  refine Dl (σ:=Nat) (λs=>[(14,e7 ((s:Nat):Int))]) (λ_=>[]) (λs=>(s<=(z8 nd es).length)/\(∀j:Nat,j<s->¬x.lv<=e_ (z8 nd es) j)) (λs=>(z8 nd es).length - s) 0 (show ((0:Nat)<=(z8 nd es).length)/\(∀j:Nat,j<(0:Nat)->¬x.lv<=e_ (z8 nd es) j) from ⟨om,(λj h=>by omega)⟩) ?_
  rintro k hp
  obtain ⟨hk,hn⟩:=hp
  refine Z ?_
  refine Am C (λap=>Z ?_)<|λap=>Z ?_
  ·refine A8 mixed (Cf (vq 3 aj ae (z8 nd es)::e8 b2 [e7 (x.kd),e7<|x.no,e7<|x.lv,.slice x.a x.xs.length x.c,e7<|x.num,e7<|x.den] 42::e8 b1 [e7 nd,.slice ea es.length ec] 48::I) 7<|Z ?_)
   refine Am C (λab=>Z ?_)<|λab=>Z ?_
   ·exact Ak C C I Af ⟨Fz Value.bool<|dh2<|by rw [fn1 aa];exact ⟨λ_=>⟨_,B3 om om,ab⟩,λ_=>rfl⟩,rfl⟩
   exact Bh ((k+1)) ⟨om,(λj h=>by by_cases e:j=k;(· subst e;exact ab);(· exact hn j om))⟩
  exact Ak C C I Af ⟨Fz Value.bool<|dh2<|by rw [fn1 aa];exact ⟨λh=>absurd h dc,λ⟨t,ht,h2⟩=>by obtain ⟨q,hq,e⟩:=bv6 ht;rw [e] at h2;exact absurd h2<|hn q om⟩,rfl⟩
 refine A8 mixed<|Cf (e8 b2 [e7 (x.kd),e7<|x.no,e7<|x.lv,.slice x.a x.xs.length x.c,e7<|x.num,e7<|x.den] 42::e8 b1 [e7 nd,.slice ea es.length ec] 48::I) 13<|Z ?_
 refine Ds1 7<|Sc2 C (Ac c_ C C<|fs0 (nd:=nd) (v:=e_ x.xs 0) (lv:=x.lv) (Bc hl) M om<|by have h:=((hw.k5 om).2.2.2.1 0 (by have:=h5 om;omega)).1;exact h) λav au=>Z ?_
 refine Gc0 (Ac c_ C C<|fa3 (Bc hs) A6) ?_
 exact Ga C<|Aq<|Bq<|Ak C C I Af ⟨Fz Value.bool<|dh2<|by rw [Jw,ga5 om],rfl⟩
theorem cj6{nd:Int}{x:AlV}(hl:Sl κ I (.slice ea es.length ec) es)(hs:Sl κ I (.slice x.a x.xs.length x.c) x.xs)(h7:nd<=7):er prog κ 35 [.agg #[e7 nd,.slice ea es.length ec],.agg #[e7 (x.kd),e7 (x.no),e7 (x.lv),.slice x.a x.xs.length x.c,e7 (x.num),e7 (x.den)]] I (λr J=>r = .tuple #[.bool (bm6 nd es x),e7 (aj6 nd es x)]/\I=J):=by
 refine Ce2 Tryz.func35 C C ?_
 refine Aj<|Ge1 (Ay (cs:=[_,_]) C C C) λb1=>Ge1 (Ay (cs:=[_,_,_,_,_,_]) C C C) λb2=>Z ?_
 refine G.e (Ac c_ C C<|K3 (nd:=nd)<|Bc hl) ?_
 rintro _ _ ⟨_,_,⟨rfl,rfl⟩,rfl,rfl⟩
 refine Z ?_
 refine Am C (λc11=>Z ?_)<|λc11=>Z ?_
 ·exact B5 C C C I Af ⟨by rw [am7 (by rw [aw3 c11];exact c11),aw3 c11]<;>rfl,rfl⟩
 refine Gc0 (Ac c_ C C<|ao3 (nd:=nd) (K:=x.kd) (no:=x.no) (lv:=x.lv) (S:=x.xs) (num:=x.num) (den:=x.den)<|Bc hs)<|Z ?_
 refine Am C (λM=>Z ?_)<|λM=>Z ?_
 ·exact B5 C C C I Af ⟨by rw [am7 (by rw [aj5 c11];exact M),aj5 c11]<;>rfl,rfl⟩
 refine Gc0 (Ac c_ C C<|bk3 (nd:=nd) (ea:=ea) (ec:=ec) (es:=es) (x:=x) (Bc hl) (Bc hs) (j6.1<|B_.1 c11) om<|AlW.of<|B_.1 M)<|Z ?_
 have E:aj6 nd es x=0:=(aj5 c11).trans (B_.1 M)
 exact B5 C C C I Af ⟨by rw [as9 E,E],rfl⟩
section
variable {nd:Int}
theorem dp6(E:G8 nd [])(h0:0<=u)(h1:u<nd):e_ (ek nd []) u=0#64:=by
 refine Mk λj hj=>?_
 show _=(0#64).getLsbD j
 rw [BitVec.getLsbD_zero,←Ms]
 intro h
 have M:(j:Int)∈em (e_ (ek nd []) u):=s4.2 ⟨by omega,by rw [Hu];exact h⟩
 have:=(E.rows.mem h0 h1).1 M
 simp at this
theorem bb8(hG:G8 nd [])(E:0<=u)(h1:u<nd):e_ (G5 nd []) u=0:=by
 have hp:=bx8 hG E h1
 refine Gg λhc=>?_
 obtain ⟨W,hW,hs,h⟩:=cf9 hG (k:=1) om
 have hu:=h u E h1 om
 have M:1<=R6 (ek nd []) W u:=hW u hu
 unfold R6 at M
 rw [dp6 hG E h1,BitVec.zero_and] at M
 exact absurd M dc
theorem cz9(M:G8 nd []){v y:Int}(E:0<=v/\v<nd):y∈bi4 nd [] v lv↔y=v/\lv<=0:=by
 have ab:=an3 M
 have hr:=M.rng
 constructor
 ·intro h
  have hs:=fg6 M h
  obtain ⟨⟨h1,h2⟩,h3⟩:=Y9.1 hs
  have hy:=(fi2 M E).1 h
  have hl:=(Y5 (ek nd []) (fy2 v.toNat) (z7 (N0 nd [] lv) &&& K2 nd)).least (λi=>i=v.toNat) (λi hi=>(fy1 om).1 hi |>.1) (λi j a _ b _=>by
   subst a
   have hz:=dp6 M E.1 E.2
   rw [show ((v.toNat:Nat):Int)=v by omega] at b
   rw [hz] at b
   simp at b) _ hy.2.2
  have aa:y=v:=by omega
  subst aa
  rw [bb8 M h1 om] at h3
  exact ⟨rfl,h3⟩
 rintro ⟨rfl,h⟩
 exact dd6 M E (by simp)<|Y9.2 ⟨⟨E.1,by omega⟩,by rw [bb8 M E.1 E.2];exact h⟩
theorem cz3(hG:G8 nd [])(h:0<=num):cp5 nd [] num den↔num<=0:=by
 have hr:=hG.rng
 unfold cp5
 split
 ·exact Iff.rfl
 rename_i hn
 constructor
 ·rintro ⟨W,_,E,M⟩
  have h3:den*J7 W []=0:=by unfold J7;simp
  have h4:0<J5 W:=by
   unfold J5
   rw [Q9 E,Fu];omega
  rw [h3] at M
  refine Gg λhc=>?_
  have:=Int.mul_pos (show 0<num by omega) h4
  omega
 intro h0
 obtain rfl:num=0:=by omega
 obtain ⟨W,E,M,_⟩:=dw8 (nd:=nd) (es:=[]) om
 exact ⟨W,E,M,by rw [Mc];unfold J7;simp⟩
theorem cf5(M:G8 nd [])(S:List Int):Z6 nd [] S=⟨0,1⟩:=by
 unfold Z6
 rw [An (λh=>h<|j6.2 M)]
 split
 ·rfl
 rename_i h
 have hi:M9 nd [] S=0:=by
  unfold M9
  rw [An (λh=>h<|j6.2 M)];rfl
 rw [hi]
 exact bv5 om
theorem ca4(M:G8 nd []):z8 nd []=[]:=Kr.1 (L5 M)
end
theorem fk5{m:Int}{x:AlV}(hn:G8 n [])(M:G8 m [])(wn:AlW n x)(wm:AlW m x):U4 n [] x=U4 m [] x:=by
 rw [Lr,Z2,Z2]
 have hk:=wn.kind
 obtain e|e|e|e|e:x.kd=1\/x.kd=2\/x.kd=3\/x.kd=4\/x.kd=5:=by omega
 ·rw [dh3 e,dh3 e]
  have h1:=(wn.k1 e).1
  have E:=(wm.k1 e).1
  rw [bb8 hn h1.1 h1.2,bb8 M E.1 E.2]
 ·have h0:0<=x.num:=(wn.k2 e).2.2.2.n0
  rw [ga6 e,ga6 e,cz3 hn h0,cz3 M h0]
 ·rw [fn2 e,fn2 e,cf5 hn,cf5 M]
 ·rw [fn1 e,fn1 e,ca4 hn,ca4 M]
 rw [ga5 e,ga5 e]
 have a:=wn.k5 e
 have b:=wm.k5 e
 have h1:0<=e_ x.xs 0/\e_ x.xs 0<n:=(a.2.2.2.1 0 a.2.2.1).1
 have E:0<=e_ x.xs 0/\e_ x.xs 0<m:=(b.2.2.2.1 0 b.2.2.1).1
 exact forall_congr' λy=>forall_congr' λ_=>by rw [cz9 hn h1,cz9 M E]
theorem co6{x:AlV}(h:aj6 n [] x=aj6 5 [] x):bm6 n [] x=bm6 5 [] x:=by
 by_cases h0:aj6 5 [] x=0
 ·have E:aj6 n [] x=0:=h.trans h0
  rw [as9 h0,as9 E]
  have g1:¬p9 n []≠0:=λM=>by rw [aw3 M] at E;exact M E
  have g2:¬p9 5 []≠0:=λM=>by rw [aw3 M] at h0;exact M h0
  rw [aj5 g1] at E
  rw [aj5 g2] at h0
  exact fk5 (j6.1<|B_.1 g1) (j6.1<|B_.1 g2) (AlW.of E)<|AlW.of h0
 rw [am7 h0,am7<|by rw [h];exact h0]
theorem ch7{κ:Ctx}{I:List Item}{b:Nat}{lv:Value}{nd:Int}(hl:∀q,Sl κ (R5 b lv q::I) lv ls)(h0:0<=i)   :
    er prog κ 36 [(pt b),.agg #[e7 nd,.slice none 0 0]] (e8 b [lv,e7 i] 125::I) (λr J=>∃y:Int×(Option Addr)×Nat×Int,((r = .agg #[e7 y.1,.slice y.2.1 ([]:List Pt).length y.2.2.1])/\0<=y.2.2.2)/\J=[vq 135 y.2.1 y.2.2.1 ([]:List Pt)]++R5 b lv y.2.2.2::I):=by
 refine Ce2 Tryz.func36 C C ?_
 refine Aj<|Ge1 (Ay (cs:=[_,_]) C C C) λb1=>Ge1 (Ah H2 C) λb2=>Aq<|Aj<|Gf Z3 C<|Gl bm1 ?_
 refine Ge2 (Eff.clone (α:=Pt) (ys:=[]) B2 H3 C C C (Sl.nil _) ta8 dc C) λE M=>?_
 refine Gf Z3 C<|Ge0 (D5 bm1) ?_
 refine Aq<|Ax<|Aj<|Gf Z3 C<|Gl bm1 ?_
 refine Gr (Bj B2 C)<|Ga C<|Aq<|Aj<|Gm C<|G.e (Ac c_ C C<|F5 ta0 (Bs (hl _) Af) om om) ?_
 rintro _ _ ⟨_,_,⟨x5,i6,rfl,ap,ar,rfl⟩,rfl,rfl⟩
 show G prog κ _ _ _ _ ([(15,e7 x5),(14,pt b),(5,e7<|((([]).length:Nat):Int)),(13,e7<|((([]).length:Nat):Int)),(12,.slice E ([]).length M),(11,.pointer<|some ⟨b1,1,none⟩),(10,.pointer<|some ⟨b1,1,none⟩),(9,.slice E ([]).length M),(8,.slice none 0 0),(7,.pointer<|some ⟨b1,1,none⟩),(4,pt b2),(3,pt b1),(0,pt b),(1,.agg #[e7 nd,.slice none 0 0])]:Env) (vq 135 E M ([])::e8 b2 [e7 0,.slice none 0 0] 48::e8 b1 [e7 nd,.slice E ([]).length M] 48::e8 b [lv,e7 i6] 125::I)
 refine Aq<|A0 (S5 15 5 4 3 0)<|A3<|Aj<|Gr (B7 C C)<|Ga C<|Aq<|Am C (λan=>?_)<|λan=>?_
 ·refine A1 (Gm C<|G.e (Ac c_ C C<|F5 ta0 (Bs (hl _) Af) om om) ?_)
  rintro _ _ ⟨_,_,⟨x7,i8,rfl,aq,ao,rfl⟩,rfl,rfl⟩
  show G prog κ _ _ _ _ ([(19,e7 x7),(18,pt b),(16,.bool<|decide<|x5=0),(17,.bool<|decide<|x5=0),(15,e7 x5),(5,e7<|((([]).length:Nat):Int)),(4,pt b2),(3,pt b1),(0,pt b)]:Env) (vq 135 E M ([])::e8 b2 [e7 0,.slice none 0 0] 48::e8 b1 [e7 nd,.slice E ([]).length M] 48::e8 b [lv,e7 i8] 125::I)
  refine Gr (Rsu C C)<|Gf T2 C<|Ge0 (D5 ef) ?_
  refine Bl<|Ap<|Al<|Aj<|Gl2 H2 ?_
  refine Ge0 (Ba H2) ?_
  exact Aq<|Bq<|Cv C H2 C mm C (vq 135 E M ([]:List Pt)::e8 b [lv,e7 i8] 125::I) Ar ⟨(x7 - 2,E,M,i8),⟨rfl,by show 0<=i8;omega⟩,rfl⟩
 refine Aj<|Gr (B7 C C)<|Ga C<|Aq<|Am C (λaj=>?_)<|λaj=>?_
 ·refine Aj (Gm C<|Gr (Cl C C)<|Aq<|Am C (λae=>?_)<|λae=>?_)
  ·exact absurd ae dc
  refine A4<|Ap<|Al<|Aj<|Gl2 H2 ?_
  refine Ge0 (Ba H2) ?_
  exact Aq<|Bq<|Cv C H2 C mm C (vq 135 E M ([]:List Pt)::e8 b [lv,e7 i6] 125::I) Ar ⟨(nd,E,M,i6),⟨rfl,by show 0<=i6;omega⟩,rfl⟩
 refine Aj<|Gr (B7 C C)<|Ga C<|Aq<|Am C (λai=>?_)<|λai=>?_
 ·refine Aj (Gm C<|Gr (Cl C C)<|Aq<|Am C (λab=>?_)<|λab=>?_)
  ·exact absurd ab dc
  refine A4<|Ap<|Al<|Aj<|Gl2 H2 ?_
  refine Ge0 (Ba H2) ?_
  exact Aq<|A0 (S1 4)<|Bq<|Cv C H2 C mm C (vq 135 E M ([]:List Pt)::e8 b [lv,e7 i6] 125::I) Ar ⟨(nd,E,M,i6),⟨rfl,by show 0<=i6;omega⟩,rfl⟩
 refine Aj<|Gr (B7 C C)<|Ga C<|Aq<|Am C (λak=>?_)<|λak=>?_
 ·refine Aj (Gm C<|Gr (Cl C C)<|Aq<|A0 (S4 76 5 4 3)<|Am C (λad=>?_)<|λad=>?_)
  ·exact absurd ad dc
  refine A4<|Ap<|Al<|Aj<|Gl2 H2 ?_
  refine Ge0 (Ba H2) ?_
  exact Aq<|Bq<|Cv C H2 C mm C (vq 135 E M ([]:List Pt)::e8 b [lv,e7 i6] 125::I) Ar ⟨(nd,E,M,i6),⟨rfl,by show 0<=i6;omega⟩,rfl⟩
 refine Aj<|Gr (B7 C C)<|Ga C<|Aq<|A0 (S5 88 5 4 3 0)<|Am C (λah=>?_)<|λah=>?_
 ·refine Aj (Gm C<|Gr (Cl C C)<|Aq<|Am C (λaa=>?_)<|λaa=>?_)
  ·exact absurd aa dc
  refine A4<|Ap<|Al<|Aj<|Gl2 H2 ?_
  refine Ge0 (Ba H2) ?_
  exact Aq<|Bq<|Cv C H2 C mm C (vq 135 E M ([]:List Pt)::e8 b [lv,e7 i6] 125::I) Ar ⟨(nd,E,M,i6),⟨rfl,by show 0<=i6;omega⟩,rfl⟩
 refine A4<|Ap<|Al<|Aj<|Gl2 H2 ?_
 refine Ge0 (Ba H2) ?_
 exact Aq<|Bq<|Cv C H2 C mm C (vq 135 E M ([]:List Pt)::e8 b [lv,e7 i6] 125::I) Ar ⟨(nd,E,M,i6),⟨rfl,by show 0<=i6;omega⟩,rfl⟩
theorem dj7{κ:Ctx}{I:List Item}{F:Item->List Item}{b:Nat}{lv:Value}{nd:Int}(M:AtF I (R5 b lv i) F)(E:∀q,Sl κ (F (R5 b lv q)) lv ls)(h0:0<=i)   :
  er prog κ 36 [(pt b),.agg #[e7 nd,.slice none 0 0]] I λr J=>∃y:Int×(Option Addr)×Nat×Int,((r = .agg #[e7 y.1,.slice y.2.1 ([]:List Pt).length y.2.2.1])/\0<=y.2.2.2)/\J=[vq 135 y.2.1 y.2.2.1 ([]:List Pt)]++F (R5 b lv y.2.2.2):=
 Ea (Post:=λr (y:Int×(Option Addr)×Nat×Int)=>(r = .agg #[e7 y.1,.slice y.2.1 ([]:List Pt).length y.2.2.1])/\0<=y.2.2.2) (Z:=λy:Int×(Option Addr)×Nat×Int=>[vq 135 y.2.1 y.2.2.1 ([]:List Pt)]) (X:=λy:Int×(Option Addr)×Nat×Int=>R5 b lv y.2.2.2) M λJ _ hF=>ch7 (λq=>(E q).fit (hF _)) h0  
theorem db9{κ:Ctx}{I:List Item}{xs ys:List Bool}(hl:Sl κ I va xs)(hm:Sl κ I vb ys):er prog κ 34 [va,vb] I (λr J=>r = .bool (decide (xs=ys))/\I=J):=by
 refine Bm hl.le λad=>?_
 refine Bm hm.le λab=>?_
 refine Ce2 Tryz.func34 C C<|Z ?_
 refine Am C (λc10=>Z ?_)<|λc10=>Z ?_
 ·have E:xs≠ys:=λe=>by subst e;omega
  exact Ak C C I Af ⟨by rw [E_ E],rfl⟩
 refine Dl (σ:=Nat) (λs=>[(13,e7 ((s:Nat):Int))]) (λ_=>[]) (λs=>(s<=xs.length)/\(∀j:Nat,j<s->e_ xs j=e_ ys j)) (λs=>xs.length - s) 0 (show ((0:Nat)<=xs.length)/\(∀j:Nat,j<(0:Nat)->e_ xs j=e_ ys j) from ⟨om,(λj h=>by omega)⟩) ?_
 rintro k hp
 obtain ⟨hk,hn⟩:=hp
 refine Z ?_
 refine Am C (λaa=>Z ?_)<|λaa=>Z ?_
 ·refine A8 mixed (Cf I 9<|Z ?_)
  refine Dr 8 C (Fj Ct C C)<|Z ?_
  refine Am C (λM=>Z ?_)<|λM=>Z ?_
  ·have E:xs≠ys:=λe=>by subst e;exact M rfl
   exact Ak C C I Af ⟨by rw [E_ E],rfl⟩
  exact Bh ((k+1)) ⟨om,(λj h=>by by_cases e:j=k;(· subst e;exact B_.1 M);(· exact hn j om))⟩
 have he:xs=ys:=Ma om λi h1 h2=>by have:=hn i om;rwa [Cj xs i h1,Cj ys i h2] at this
 exact Ak C C I Af ⟨by rw [D_ he],rfl⟩
end Go.Sl
namespace Go.Sl
open Go.Proofs
set_option maxRecDepth 4000
variable{xs:List AlV}{k:Nat}
def bz7(nd:Int):List AlV->Int
 |[]=>0
 |x::xs=>if x.err nd≠0 then x.err nd else bz7 nd xs
theorem cf0{nd:Int}(M:k<xs.length)(h:(e_ xs k).err nd=0):bz7 nd (xs.drop k)=bz7 nd (xs.drop (k+1)):=by
 rw [Hp M,←Cj xs k M]
 show (if _ then _ else _)=_
 rw [An (by rw [h];decide)]
theorem cz0{nd:Int}(M:k<xs.length)(h:(e_ xs k).err nd≠0):bz7 nd (xs.drop k)=(e_ xs k).err nd:=by
 rw [Hp M,←Cj xs k M]
 show (if _ then _ else _)=_
 rw [By h]
theorem bh6{nd:Int}:∀{xs:List AlV},bz7 nd xs=0->∀x∈xs,AlW nd x
 |[],_,x,h=>by cases h
 |y::ys,h,x,hx=>by
  have M:(if y.err nd≠0 then y.err nd else bz7 nd ys)=0:=h
  by_cases hy:y.err nd≠0
  ·rw [By hy] at M;exact absurd M hy
  rw [An hy] at M
  rcases Gh.1 hx with rfl|hx
  ·exact AlW.of<|B_.1 hy
  exact bh6 M x hx
def au9(nd kd wd mo:Int)(es:List Ev)(als:List AlV):Int:=if r7 kd wd mo≠0 then r7 kd wd mo else if q8 nd es≠0 then q8 nd es else if 16<als.length then 3 else bz7 nd als
noncomputable def ap2(nd kd wd mo:Int)(es:List Ev)(als:List AlV):List Rg:=if au9 nd kd wd mo es als=0 then bo7 nd kd wd mo es als else []
section
variable {nd kd wd mo:Int}{es:List Ev}{als:List AlV}
theorem ai1(h:au9 nd kd wd mo es als≠0):ap2 nd kd wd mo es als=[]:=by unfold ap2;rw [An h]
theorem bt4(h:au9 nd kd wd mo es als=0):ap2 nd kd wd mo es als=bo7 nd kd wd mo es als:=by unfold ap2;rw [By h]
theorem fs8(h:r7 kd wd mo≠0):au9 nd kd wd mo es als=r7 kd wd mo:=by unfold au9;rw [By h]
theorem fs9(M:¬r7 kd wd mo≠0)(h:q8 nd es≠0):au9 nd kd wd mo es als=q8 nd es:=by unfold au9;rw [An M,By h]
theorem ft0(M:¬r7 kd wd mo≠0)(E:¬q8 nd es≠0)(h:16<als.length):au9 nd kd wd mo es als=3:=by unfold au9;rw [An M,An E,By h]
theorem cs7(E:¬r7 kd wd mo≠0)(h1:¬q8 nd es≠0)(M:¬16<als.length):au9 nd kd wd mo es als=bz7 nd als:=by unfold au9;rw [An E,An h1,An M]
end
theorem bj2{κ:Ctx}{I:List Item}{nd kd wd mo:Int}{ea aa:Option Addr}{ec ac:Nat}{es:List Ev}{als:List AlV}(hl:Sl κ I (.slice ea es.length ec) es)(ha:Sl κ I (.slice aa als.length ac) als)(a3:∀x∈als,Sl κ I (.slice x.a x.xs.length x.c) x.xs)(hlen:es.length<=19)(hT:P6 κ I 0 F3):er prog κ 23 [e7 nd,.slice ea es.length ec,.agg #[e7 kd,e7 wd,e7 mo],.slice aa als.length ac] I (λr J=>∃a c,r = .tuple #[.slice a (ap2 nd kd wd mo es als).length c,e7 (au9 nd kd wd mo es als)]/\J=vq 44 a c (ap2 nd kd wd mo es als)::I):=by
 refine Bm hl.le λbi=>?_
 refine Bm ha.le λa5=>?_
 refine Ce4 Tryz.func23 C C ?_
 refine Aj<|Ge1 (Ay (cs:=[_,_,_]) C C C) λb1=>Ga C<|Ga C<|Aq<|Ax<|Aj<|Gl3 ah8 ?_
 refine G.e (Ac c_ C C<|bk6 kd wd mo) ?_
 rintro _ _ ⟨_,_,⟨rfl,rfl⟩,rfl,rfl⟩
 refine Ga C<|Aq<|Aj<|Gm C<|Gr (Cu C C)<|Aq<|Am C (λad=>?_)<|λad=>?_
 ·refine Aj (Gm C<|Ga C<|Ga C<|Aq<|A0 (S2 9 8)<|Bq<|Az ?_)
  have he:au9 nd kd wd mo es als=r7 kd wd mo:=fs8 ad
  have hr:ap2 nd kd wd mo es als=[]:=ai1 (by rw [he];exact ad)
  exact B5 C C C (vq 44 none 0 (ap2 nd kd wd mo es als)::I) (by unfold vq;rw [hr];exact Bz (Bb (α:=Rg) _ _) Bi) ⟨none,0,by rw [hr,he]<;>rfl,rfl⟩
 refine A4<|Al<|Ax<|Aj<|Gm C<|Gm C<|Gc0 (Ac c_ C C<|cj8 (nd:=nd)<|Bc hl) ?_
 refine Ga C<|Aq<|A0 (S5 11 6 0 1 3)<|Aj<|Gm C<|Gr (Cu C C)<|Aq<|Am C (λaj=>?_)<|λaj=>?_
 ·refine Aj (Gm C<|Ga C<|Ga C<|Aq<|Bq<|Az ?_)
  have he:au9 nd kd wd mo es als=q8 nd es:=fs9 ad aj
  have hr:ap2 nd kd wd mo es als=[]:=ai1 (by rw [he];exact aj)
  exact B5 C C C (vq 44 none 0 (ap2 nd kd wd mo es als)::I) (by unfold vq;rw [hr];exact Bz (Bb (α:=Rg) _ _) Bi) ⟨none,0,by rw [hr,he]<;>rfl,rfl⟩
 refine A4<|Al<|Ax<|Aj<|Gm C<|Gr (Bj Be C)<|Gr (Cl C C)<|Aq<|Am C (λa9=>?_)<|λa9=>?_
 ·refine Aj (Ga C<|Ga C<|Aq<|Bq<|Az ?_)
  have he:au9 nd kd wd mo es als=3:=ft0 ad aj om
  have hr:ap2 nd kd wd mo es als=[]:=ai1 (by rw [he];decide)
  exact B5 C C C (vq 44 none 0 (ap2 nd kd wd mo es als)::I) (by unfold vq;rw [hr];exact Bz (Bb (α:=Rg) _ _) Bi) ⟨none,0,by rw [hr,he]<;>rfl,rfl⟩
 refine A4<|Al<|Ax<|Aj<|Gm C<|Gr (Bj Be C)<|Gm C<|Aq<|A3<|B4 (σ:=Nat) (λs=>([(0,e7 nd),(1,.slice ea es.length ec),(3,.slice aa als.length ac),(6,pt b1),(38,.slice aa als.length ac),(39,e7 ((als.length:Nat):Int)),(40,e7 ((s:Nat):Int))]:Env)) (λs=>e8 b1 [e7 kd,e7 wd,e7 mo] 31::I) (λs=>(s<=als.length)/\(bz7 nd als=bz7 nd (als.drop s))) (λs=>als.length - s) 0 (show ((0:Nat)<=als.length)/\(bz7 nd als=bz7 nd (als.drop (0:Nat))) from ⟨om,rfl⟩) (cx4<|cx2<|Aa Co A9) (show Fit κ _ (e8 b1 [e7 kd,e7 wd,e7 mo] 31::I) from Ar) ?_
 rintro k hp
 obtain ⟨hk,ax⟩:=hp
 refine Aj<|Gr (Bp C C)<|Aq<|Ax<|Am C (λba=>?_)<|λba=>?_
 ·refine A4 (Al<|Ax<|A3<|Aj<|Gr (A2 (α:=AlV) (xs:=als) Be P1 C C (Bc ha) om olr)<|Gr (Cd (α:=AlV) (xs:=als) P1 C (Bc ha) om olr)<|Ge1 (Ah P1 C) λb2=>Ge0 (Dp P1) ?_)
  refine Aq<|Aj<|Gl6 P1 ?_
  refine Gm C<|G.e (Ac c_ C C<|ao2 (nd:=nd) (K:=(e_ als k).kd) (no:=(e_ als k).no) (lv:=(e_ als k).lv) (S:=(e_ als k).xs) (num:=(e_ als k).num) (den:=(e_ als k).den)<|Bs (a3 _<|B3 om om) Af) ?_
  rintro _ _ ⟨_,_,⟨rfl,rfl⟩,rfl,rfl⟩
  refine Ga C<|Aq<|A0 (S8 14 0 1 3 6 38 39 40)<|Aj<|Gm C<|Gr (Cu C C)<|Aq<|Am C (λaq=>?_)<|λaq=>?_
  ·refine Aj (Gm C<|Ga C<|Ga C<|Aq<|Bq<|Bf<|Az<|Az<|Bf<|Az ?_)
   have he:au9 nd kd wd mo es als=(e_ als k).err nd:=(cs7 ad aj om).trans (ax.trans<|cz0 om aq)
   have hr:ap2 nd kd wd mo es als=[]:=ai1 (by rw [he];exact aq)
   exact B5 C C C (vq 44 none 0 (ap2 nd kd wd mo es als)::I) (by unfold vq;rw [hr];exact Bz (Bb (α:=Rg) _ _) Bi) ⟨none,0,by rw [hr,he]<;>rfl,rfl⟩
  exact A4<|Ap<|Al<|A1<|Gr (Rad C C)<|Gm C<|Bl<|Bh ((k+1)) ⟨om,(ax.trans<|cf0 om<|B_.1 aq)⟩
 refine B6<|Ao<|Ao<|A5<|Al<|Aj<|Ga C ?_
 have hH:G6 nd kd wd mo es:=⟨av3<|B_.1 aj,B_.1 ad⟩
 have bb:als.length<=16:=by omega
 have az:bz7 nd als=0:=by rw [ax,Hb om];rfl
 have hz:au9 nd kd wd mo es als=0:=(cs7 ad aj om).trans az
 have a7:=bh6 az
 refine Aq<|Aj<|Gm C<|Gr (Bj Be C)<|Ge2 (Ca (α:=Bool) (n:=als.length) Bk ty4 C C C om om dc C) λae ai=>?_
 refine Ga C<|Aq<|Ax<|Aj<|Gm C<|Gm C<|Gl3 ah8 ?_
 refine G.e (Ac c_ C C<|fp1 (nd:=nd) (kd:=kd) (wd:=wd) (mo:=mo) (Bc hl) hH hlen) ?_
 rintro _ _ ⟨_,_,⟨ah,ak,rfl,rfl⟩,rfl,rfl⟩
 refine Gr (Bj Ab C)<|Gm C<|Aq<|A0 (S9 59 58 57 16 15 0 1 3 6)<|A3<|B4 (σ:=Nat×(Option Addr)×Nat×(List Bool)×(List Rg)) (λs=>([(0,e7 nd),(1,.slice ea es.length ec),(3,.slice aa als.length ac),(6,pt b1),(15,.slice s.2.1 s.2.2.2.2.length s.2.2.1),(16,.slice ae (replicate als.length (default:Bool)).length ai),(57,.slice ah (j5 kd wd mo es).length ak),(58,e7<|(((j5 kd wd mo es).length:Nat):Int)),(59,e7 ((s.1:Nat):Int))]:Env)) (λs=>vq 44 s.2.1 s.2.2.1 s.2.2.2.2::vq 3 ah ak (j5 kd wd mo es)::vc 4 (.slice ae (replicate als.length (default:Bool)).length ai) (s.2.2.2.1)::e8 b1 [e7 kd,e7 wd,e7 mo] 31::I) (λs=>(s.1<=(j5 kd wd mo es).length)/\((s.2.2.2.1,s.2.2.2.2)=av7 (alH nd kd wd mo es als) als.length (List.take s.1<|j5 kd wd mo es))) (λs=>(j5 kd wd mo es).length - s.1) (0,none,0,replicate als.length false,[]) (show ((0:Nat)<=(j5 kd wd mo es).length)/\(((replicate als.length false:List Bool),([]:List Rg))=av7 (alH nd kd wd mo es als) als.length (List.take (0:Nat)<|j5 kd wd mo es)) from ⟨om,rfl⟩) (cx4<|Aa (Da C<|by first|rfl|simp)<|cx2<|Aa C<|Aa Co A9) (show Fit κ _ (vq 44 none 0 ([])::vq 3 ah ak (j5 kd wd mo es)::vc 4 (.slice ae (replicate als.length (default:Bool)).length ai) ((replicate als.length false))::e8 b1 [e7 kd,e7 wd,e7 mo] 31::I) from (Bz (Bb (α:=Rg) _ _) Bi)) ?_
 rintro ⟨k,a,c,on,out⟩ hp
 dsimp only at hp ⊢
 obtain ⟨hk,av⟩:=hp
 have bj:=av2 hH hlen
 have ar:=bf3 (alH nd kd wd mo es als) als.length (j5 kd wd mo es) k om
 rw [←av] at ar
 have a0:on.length=als.length:=ar.1
 have be:out.length<=als.length*k:=ar.2
 have bm:als.length*k<=16*58:=Nat.mul_le_mul bb om
 refine Aj<|Gr (Bp C C)<|Aq<|Ax<|Am C (λa8=>?_)<|λa8=>?_
 ·refine A4 (Al<|Ax<|A3<|Aj<|Gr (A2 (α:=Int) (xs:=j5 kd wd mo es) Ab ef C C A6 om olr)<|Gr (B8 (xs:=j5 kd wd mo es) ef C A6 om olr)<|Ga C<|Aq<|Aj<|Gm C<|Gm C<|Gl3 ah8 ?_)
  refine Gm C<|G.e (Ac c_ C C<|gv9 (nd:=nd) (kd:=kd) (wd:=wd) (mo:=mo) (tq:=e_ (j5 kd wd mo es) k) (Bc hl) hH hlen<|av1 hH _<|B3 om om) ?_
  rintro _ _ ⟨_,_,⟨an,ao,rfl,rfl⟩,rfl,rfl⟩
  refine Gm C<|Gr (Av C C)<|Gr (Av C C)<|Ge1 (Ah H2 C) λb9=>Ge0 (Ba H2) ?_
  refine Ga C<|Aq<|A0 (S12 20 19 18 0 1 3 6 15 16 57 58 59)<|Ax<|Aj<|Gm C<|Gr (Cu C C)<|Aq<|A0 (S13 72 20 19 18 0 1 3 6 15 16 57 58 59)<|Am C (λa1=>?_)<|λa1=>?_
  ·exact absurd rfl a1
  refine A4<|Al<|Aj<|Gm C<|Gr (Bj Be C)<|Gm C<|Aq<|A0 (S14 76 75 74 19 18 0 1 3 6 15 16 57 58 59)<|A3<|B4 (σ:=Nat×(Option Addr)×Nat×(List Bool)×(List Rg)) (λs=>([(0,e7 nd),(1,.slice ea es.length ec),(3,.slice aa als.length ac),(6,pt b1),(15,.slice s.2.1 s.2.2.2.2.length s.2.2.1),(16,.slice ae (replicate als.length (default:Bool)).length ai),(18,e7<|e_ (j5 kd wd mo es) k),(19,pt b9),(57,.slice ah (j5 kd wd mo es).length ak),(58,e7<|(((j5 kd wd mo es).length:Nat):Int)),(59,e7<|(k:Int)),(74,.slice aa als.length ac),(75,e7 ((als.length:Nat):Int)),(76,e7 ((s.1:Nat):Int))]:Env)) (λs=>vq 44 s.2.1 s.2.2.1 s.2.2.2.2::e8 b9 [e7 nd,.slice an (atG kd wd mo es<|e_ (j5 kd wd mo es) k).length ao] 48::vq 135 an ao (atG kd wd mo es<|e_ (j5 kd wd mo es) k)::vq 3 ah ak (j5 kd wd mo es)::vc 4 (.slice ae (replicate als.length (default:Bool)).length ai) (s.2.2.2.1)::e8 b1 [e7 kd,e7 wd,e7 mo] 31::I) (λs=>(s.1<=als.length)/\((s.2.2.2.1,s.2.2.2.2)=W8 (e_ (j5 kd wd mo es) k) ((alH nd kd wd mo es als)<|e_ (j5 kd wd mo es) k) s.1 (on,out))) (λs=>als.length - s.1) (0,a,c,on,out) (show ((0:Nat)<=als.length)/\(((on:List Bool),(out:List Rg))=W8 (e_ (j5 kd wd mo es) k) ((alH nd kd wd mo es als)<|e_ (j5 kd wd mo es) k) (0:Nat) (on,out)) from ⟨om,rfl⟩) (cx4<|Aa (Da C<|by first|rfl|simp)<|cx4<|cx4<|Aa Co A9) (show Fit κ _ (vq 44 a c (out)::e8 b9 [e7 nd,.slice an (atG kd wd mo es<|e_ (j5 kd wd mo es) k).length ao] 48::vq 135 an ao (atG kd wd mo es<|e_ (j5 kd wd mo es) k)::vq 3 ah ak (j5 kd wd mo es)::vc 4 (.slice ae (replicate als.length (default:Bool)).length ai) ((on))::e8 b1 [e7 kd,e7 wd,e7 mo] 31::I) from Bi) ?_
  rintro ⟨k2,a2,c2,ab,M⟩ hp
  dsimp only at hp ⊢
  obtain ⟨bk,E⟩:=hp
  have au:=as1 (e_ (j5 kd wd mo es) k) ((alH nd kd wd mo es als)<|e_ (j5 kd wd mo es) k) k2 (on,out)
  rw [←E] at au
  have bh:ab.length=als.length:=au.1.trans a0
  have bg:M.length<=out.length+k2:=au.2
  refine Aj<|Gr (Bp C C)<|Aq<|A0 (S15 77 0 1 3 6 15 16 18 19 57 58 59 74 75 76)<|Ax<|Am C (λbc=>?_)<|λbc=>?_
  ·refine A4 (Al<|A0 (S14 0 1 3 6 15 16 18 19 57 58 59 74 75 76)<|Ax<|A3<|Aj<|Gm C<|Gr (A2 (α:=AlV) (xs:=als) Be P1 C C (Bc ha) om olr)<|Gr (Cd (α:=AlV) (xs:=als) P1 C (Bc ha) om olr) ?_)
   have aw:=a7 (e_ als k2) (B3 om om)
   refine Ge1 (Ah P1 C) λa6=>Ga C<|Ge0 (Dp P1) ?_
   refine Aq<|A0 (S16 21 22 0 1 3 6 15 16 18 19 57 58 59 74 75 76 C C C C C C C C C C C C C C C C)<|Ax<|A8 mixed<|Cf (e8 a6 [e7 ((e_ als k2).kd),e7<|(e_ als k2).no,e7<|(e_ als k2).lv,.slice (e_ als k2).a (e_ als k2).xs.length (e_ als k2).c,e7<|(e_ als k2).num,e7<|(e_ als k2).den] 42::vq 44 a2 c2 M::e8 b9 [e7 nd,.slice an (atG kd wd mo es<|e_ (j5 kd wd mo es) k).length ao] 48::vq 135 an ao (atG kd wd mo es<|e_ (j5 kd wd mo es) k)::vq 3 ah ak (j5 kd wd mo es)::vc 4 (.slice ae (replicate als.length (default:Bool)).length ai) (ab)::e8 b1 [e7 kd,e7 wd,e7 mo] 31::I) 8<|Dr 0 C (Ai dv5 C)<|Dr 1 C (Bd ef) ?_
   refine Dr 4 C (Ch (vs:=[_,_]) H2) ?_
   refine Dr 5 C (Ch (vs:=[_,_,_,_,_,_]) P1) ?_
   refine Ds1 2<|Se C (Ac c_ C C<|bz1 aw.kind) ?_
   rintro _ _ ⟨_,_,⟨rfl,rfl⟩,rfl,rfl⟩
   refine ⟨Ar,?_⟩
   refine Dr 3 C (j0.fu7 (λw=>fu8 _ _ _ _ _ w) C) ?_
   refine Ds1 6<|Se C (C0 (dw1 aw.kind) (first:=[]) (caps:=[]) C C C<|bk4 (x:=(e_ als k2)) A6 (Bs (a3 _<|B3 om om) Af) (hH.graph<|e_ (j5 kd wd mo es) k) aw<|Cb hT Af) ?_
   rintro _ _ ⟨_,_,⟨rfl,rfl⟩,rfl,rfl⟩
   refine ⟨Ar,?_⟩
   refine Dr 7 C (Bo C)<|Dz<|Al<|A0 (S16 23 21 0 1 3 6 15 16 18 19 57 58 59 74 75 76 C C C C C C C C C C C C C C C C)<|Aj<|Gm C<|Gm C<|Gm C<|Gr (A2 (α:=Bool) (xs:=ab) Bk ty4 C C A6 om olr)<|Gr (Fl (xs:=ab) ty4 C A6 om olr)<|Gr (Fj Ct C C)<|Aq<|A0 (S17 93 23 21 0 1 3 6 15 16 18 19 57 58 59 74 75 76 C C C C C C C C C C C C C C C C C)<|Am C (λap=>?_)<|λap=>?_
   ·refine Aj (Gm C<|Gm C<|Gm C<|Gr (A2 (α:=Bool) (xs:=ab) Bk ty4 C C A6 om olr)<|Ge0 (Cr (α:=Bool) (xs:=ab) (e:=4) (new:=(U4 nd (atG kd wd mo es<|e_ (j5 kd wd mo es) k)<|e_ als k2)) ty4 C C C om olr am) ?_)
    refine Aq<|A0 (S16 23 21 0 1 3 6 15 16 18 19 57 58 59 74 75 76 C C C C C C C C C C C C C C C C)<|A1<|Gm C<|Gm C<|Gm C<|Gm C<|Gr (B1 (cells:=[_,_,_]) bt6 C8 ge3 C C)<|Ge1 (Bt (α:=Rg) (cs:=[_,_,_]) (xs:=[⟨e_ (j5 kd wd mo es) k,(k2:Int),(U4 nd (atG kd wd mo es<|e_ (j5 kd wd mo es) k)<|e_ als k2)⟩]) Cq bt6 C C dc dc C C C C) λbf=>?_
    refine Ge2 (Bv (α:=Rg) (e:=44) (xs:=M) (ys:=([⟨e_ (j5 kd wd mo es) k,(k2:Int),(U4 nd (atG kd wd mo es<|e_ (j5 kd wd mo es) k)<|e_ als k2)⟩]:List Rg)) Cq bt6 C C C mm A6 lcn dc C<|λ_ _=>am) λa4 ay=>?_
    exact Ga C<|Bl<|Ap<|Al<|A0 (S14 15 0 1 3 6 16 18 19 57 58 59 74 75 76)<|A1<|Gr (Rad C C)<|Gm C<|Bl<|Bh ((k2+1),(a4),(ay),(List.set ab ((k2:Int)).toNat ((U4 nd (atG kd wd mo es<|e_ (j5 kd wd mo es) k)<|e_ als k2))),(M++([⟨e_ (j5 kd wd mo es) k,(k2:Int),(U4 nd (atG kd wd mo es<|e_ (j5 kd wd mo es) k)<|e_ als k2)⟩]:List Rg)))<|by dsimp only;exact ⟨om,(by first|exact ba6 E ap|exact bu4 E ap)⟩
   exact A4<|Ap<|Al<|A0 (S14 0 1 3 6 15 16 18 19 57 58 59 74 75 76)<|A1<|Gr (Rad C C)<|Gm C<|Bl<|Bh ((k2+1),(a2),(c2),(ab),(M))<|by dsimp only;exact ⟨om,(by first|exact ba6 E ap|exact bu4 E ap)⟩
  exact B6<|Ao<|Ao<|A5<|Ap<|Al<|A0 (S9 0 1 3 6 15 16 57 58 59)<|A1<|Gr (Rad C C)<|Gm C<|Bl<|Bh ((k+1),(a2),(c2),(ab),(M))<|by dsimp only;exact ⟨om,(by rw [E,av6 om,←av,show k2=als.length by omega])⟩
 refine B6<|Ao<|Ao<|A5<|Al<|Aj<|Gm C<|Ga C<|Ga C<|Aq<|Bq ?_
 have hE:out=(bo7 nd kd wd mo es als):=by have h:=Fz Prod.snd av;rw [Gb om] at h;exact h
 have hR:ap2 nd kd wd mo es als=out:=by rw [hE];exact bt4 hz
 exact B5 C C C (vq 44 a c (ap2 nd kd wd mo es als)::I) (by unfold vq;rw [hR];exact Bi) ⟨a,c,by rw [hR,hz],rfl⟩
end Go.Sl
