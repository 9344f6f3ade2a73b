/- A part of the proofs of statements of this seat: contracts of functions, and the plain laws that they lean on. No conditions. -/
import Derived.Test.YtfkcohmipjhfcaaGreatDoorB20
set_option linter.unusedVariables false
set_option linter.unusedSimpArgs false
set_option linter.unusedSectionVars false
open Go.Proofs.Tryz (prog)
set_option maxHeartbeats 2000000
namespace Go.Sl
open Go.Proofs
set_option maxRecDepth 4000
variable{I:List Item}{K den lv nd no num:Int}{S:List Int}{sa:Option Addr}{sc:Nat}
attribute [local irreducible] W G V D A j0 Eff
def R8(S:List Int)(nd:Int):Prop:=y7 S nd/\0<S.length
instance (S:List Int) (nd:Int):Decidable (R8 S nd):=inferInstanceAs (Decidable (_/\_))
def bc1(nd K no:Int)(S:List Int):Prop:=(K=1/\(no<0\/nd<=no))\/((K=3\/K=5)/\¬R8 S nd)
def bc0(K lv num den:Int):Prop:=((K=1\/K=4\/K=5)/\(lv<0\/64<lv))\/((K=2\/K=3)/\(¬okF num den\/num<0))
def V7(K no lv:Int)(S:List Int)(num den:Int):Prop:=(K≠1/\no≠0)\/(¬(K=3\/K=5)/\0<S.length)\/(¬(K=1\/K=4\/K=5)/\lv≠0)\/(¬(K=2\/K=3)/\¬(num=0/\den=0))
instance (nd K no:Int) (S:List Int):Decidable (bc1 nd K no S):=inferInstanceAs (Decidable (_\/_))
instance (K lv num den:Int):Decidable (bc0 K lv num den):=inferInstanceAs (Decidable (_\/_))
instance (K no lv:Int) (S:List Int) (num den:Int):Decidable (V7 K no lv S num den):=inferInstanceAs (Decidable (_\/_))
def J3(nd K no lv:Int)(S:List Int)(num den:Int):Int:=if ¬(1<=K/\K<=5) then 8 else if bc1 nd K no S then 6 else if bc0 K lv num den then 1 else if V7 K no lv S num den then 34 else 0
def AlV.err(x:AlV)(nd:Int):Int:=J3 nd x.kd x.no x.lv x.xs x.num x.den
structure AlW (n:Int) (x:AlV):Prop where
 kind:1<=x.kd/\x.kd<=5
 k1:x.kd=1->(0<=x.no/\x.no<n)/\(0<=x.lv/\x.lv<=64)/\x.xs=[]/\x.num=0/\x.den=0
 k2:x.kd=2->x.no=0/\x.lv=0/\x.xs=[]/\FrW ⟨x.num,x.den⟩
 k3:x.kd=3->x.no=0/\x.lv=0/\0<x.xs.length/\y7 x.xs n/\FrW ⟨x.num,x.den⟩
 k4:x.kd=4->x.no=0/\(0<=x.lv/\x.lv<=64)/\x.xs=[]/\x.num=0/\x.den=0
 k5:x.kd=5->x.no=0/\(0<=x.lv/\x.lv<=64)/\0<x.xs.length/\y7 x.xs n/\x.num=0/\x.den=0
theorem AlW.of{n:Int}{x:AlV}(h:x.err n=0):AlW n x:=by
 obtain ⟨kd,no,lv,a,c,xs,num,den⟩:=x
 unfold AlV.err J3 at h
 simp only at h
 by_cases h0:¬(1<=kd/\kd<=5)
 ·rw [By h0] at h;exact absurd h dc
 by_cases h1:bc1 n kd no xs
 ·rw [An h0,By h1] at h;exact absurd h dc
 by_cases h2:bc0 kd lv num den
 ·rw [An h0,An h1,By h2] at h;exact absurd h dc
 by_cases h3:V7 kd no lv xs num den
 ·rw [An h0,An h1,An h2,By h3] at h;exact absurd h dc
 unfold bc1 at h1;unfold bc0 at h2;unfold V7 at h3
 have hs:(kd=3\/kd=5)->R8 xs n:=λe=>B_.1 λq=>h1 (.inr ⟨e,q⟩)
 have hf:(kd=2\/kd=3)->FrW ⟨num,den⟩:=λe=>FrW.of (B_.1 λq=>h2 (.inr ⟨e,.inl q⟩)) (by
  by_cases q:num<0
  ·exact absurd (.inr ⟨e,.inr q⟩) h2
  omega)
 have M:kd≠1->no=0:=λe=>B_.1 λq=>h3 (.inl ⟨e,q⟩)
 have E:¬(kd=3\/kd=5)->xs=[]:=λe=>by
  refine Kr.1 ?_
  by_cases q:0<xs.length
  ·exact absurd (.inr<|.inl ⟨e,q⟩) h3
  omega
 have hl:¬(kd=1\/kd=4\/kd=5)->lv=0:=λe=>B_.1 λq=>h3 (.inr<|.inr<|.inl ⟨e,q⟩)
 have hd:¬(kd=2\/kd=3)->num=0/\den=0:=λe=>B_.1 λq=>h3 (.inr<|.inr<|.inr ⟨e,q⟩)
 have hr:kd=1->0<=no/\no<n:=λe=>by
  by_cases q:no<0\/n<=no
  ·exact absurd (.inl ⟨e,q⟩) h1
  omega
 have hv:(kd=1\/kd=4\/kd=5)->0<=lv/\lv<=64:=λe=>by
  by_cases q:lv<0\/64<lv
  ·exact absurd (.inl ⟨e,q⟩) h2
  omega
 refine ⟨B_.1 h0,λe=>?_,λe=>?_,λe=>?_,λe=>?_,λe=>?_⟩<;>simp only at e
 ·exact ⟨hr e,hv<|.inl e,E om,hd om⟩
 ·exact ⟨M om,hl om,E om,hf<|.inl e⟩
 ·exact ⟨M om,hl om,(hs<|.inl e).2,(hs<|.inl e).1,hf<|.inr e⟩
 ·exact ⟨M om,hv<|.inr<|.inl e,E om,hd om⟩
 exact ⟨M om,hv<|.inr<|.inr e,(hs<|.inr e).2,(hs<|.inr e).1,hd om⟩
theorem bDw{p q:Prop}[Decidable p][Decidable q](h:p↔q):decide p=decide q:=Fy.2 h
theorem fb9{κ:Ctx}(h:¬(1<=K/\K<=5)):er prog κ 81 [e7 K] I (λr J=>r = .agg #[.bool false,.bool false,.bool false,.bool false,.nilFunc]/\I=J):=by
 refine Ce1 E9 C C ?_
 refine Aj<|Ge1 (Ah T9 C) λb1=>Z ?_
 refine Am C (λc4=>?_)<|λc4=>Z ?_
 ·exact absurd c4 om
 refine Am C (λE=>?_)<|λE=>Z ?_
 ·exact absurd E om
 refine Am C (λc10=>?_)<|λc10=>Z ?_
 ·exact absurd c10 om
 refine Am C (λc13=>?_)<|λc13=>Z ?_
 ·exact absurd c13 om
 refine Am C (λM=>?_)<|λM=>Z ?_
 ·exact absurd M om
 refine Ge0 (Fp T9)<|Z ?_
 exact Cv C T9 C mm C I Af ⟨rfl,rfl⟩
section
variable {P:Program}{κ:Ctx}{N:Frm}{L:Env}{J:List Item}{d:Option Tmp}{ty:TypeId}{ps:String}{af:Array Edge}{gd:Option (Nat×Bool)}
theorem j0.gt6{x y:Operand}{T U:TypeId}(hT:∀w:World,(binOp .eql T .nilFunc .nilFunc).run P w = .ok (.bool true) w)(hx:ep L x=some .nilFunc)(hy:ep L y=some .nilFunc) :
  j0 P κ N ⟨d,.binOp .eql T x y U,ty,ps,af,gd⟩ L J (.bool true):=by
 unfold j0;intro a w ha _
 have hg:(eqGuard .eql T x y .nilFunc .nilFunc).run P w = .ok () w:=by simp [eqGuard]
 simp only [execOp,ha.eval hx,ha.eval hy]
 simp [hg,hT w]
end
theorem dm8{κ:Ctx}{M:Option Addr}{E:Nat}(hs:Sl κ I (.slice M S.length E) S)(h:¬(1<=K/\K<=5)):er prog κ 37 [.agg #[e7 K,e7 no,e7 lv,.slice M S.length E,e7 num,e7 den],e7 nd] I (λr J=>r=e7 8/\I=J):=by
 refine Ce2 Tryz.func37 C C ?_
 refine Aj<|Ge1 (Ay (cs:=[_,_,_,_,_,_]) C C C) λb1=>Z ?_
 refine G.e (Ac c_ C C<|fb9 h) ?_
 rintro _ _ ⟨_,_,⟨rfl,rfl⟩,rfl,rfl⟩
 refine Ge1 (Ah T9 C) λb2=>Ge0 (Fp T9)<|Z ?_
 refine Gr (j0.gt6 (λw=>by kernel_rfl) C C)<|Z ?_
 exact Ak C C I Af ⟨rfl,rfl⟩
theorem dm7{κ:Ctx}(hs:Sl κ I (.slice sa S.length sc) S)(h:1<=K/\K<=5):er prog κ 37 [.agg #[e7 K,e7 no,e7 lv,.slice sa S.length sc,e7 num,e7 den],e7 nd] I (λr J=>r=e7 (J3 nd K no lv S num den)/\I=J):=by
 refine Ce2 Tryz.func37 C C ?_
 refine Aj<|Ge1 (Ay (cs:=[_,_,_,_,_,_]) C C C) λb1=>Z ?_
 refine G.e (Ac c_ C C<|bz1 h) ?_
 rintro _ _ ⟨_,_,⟨rfl,rfl⟩,rfl,rfl⟩
 refine Ge1 (Ah T9 C) λb2=>Ge0 (Fp T9)<|Z ?_
 refine Gr (j0.eqFn (λw=>by kernel_rfl) C C)<|Ga C<|Aq<|W.no C<|D2 (σ:=Bool) (λs=>([(2,pt b1),(5,pt b2),(13,.bool s)]:Env)) (λs=>e8 b2 [.bool (decide<|K=1),.bool<|decide<|K=1\/K=4\/K=5,.bool<|decide<|K=3\/K=5,.bool<|decide<|K=2\/K=3,.func (.func<|fK K) #[] #[]] 132::e8 b1 [e7 K,e7 no,e7 lv,.slice sa S.length sc,e7 num,e7 den] 42::I) (λs=>(s=decide (bc1 nd K no S))) ?_ ?_
 ·refine Z ?_
  refine Au (d:=16) C (λay=>Z ?_)<|λay=>Z ?_
  ·refine Au (d:=20) C (λa1=>Z ?_) (λa1=>Z ?_)
   ·exact Bu ((true))<|bTw<|by unfold bc1 R8;simp_all<;>omega
   refine Au (d:=27) C (λax=>Z ?_)<|λax=>Z ?_
   ·exact Bu ((true))<|bTw<|by unfold bc1 R8;simp_all<;>omega
   refine Au (d:=30) C (λau=>Z ?_)<|λau=>Z ?_
   ·refine Au (d:=35) C (λaq=>Z ?_) (λaq=>Z ?_)
    ·exact Bu ((true))<|bTw<|by unfold bc1 R8;simp_all<;>omega
    refine D0 (B9 C C C) (Ac c_ C C<|ci4 (Bc hs) nd) ?_
    rintro _ _ ⟨_,_,⟨rfl,rfl⟩,rfl,rfl⟩
    refine Z ?_
    exact Bu ((decide<|¬(y7 S nd)))<|bDw<|by unfold bc1 R8;simp_all<;>omega
   exact Bu ((false))<|bFw<|by unfold bc1 R8;simp_all<;>omega
  refine Au (d:=30) C (λau=>Z ?_)<|λau=>Z ?_
  ·refine Au (d:=35) C (λaq=>Z ?_) (λaq=>Z ?_)
   ·exact Bu ((true))<|bTw<|by unfold bc1 R8;simp_all<;>omega
   refine D0 (B9 C C C) (Ac c_ C C<|ci4 (Bc hs) nd) ?_
   rintro _ _ ⟨_,_,⟨rfl,rfl⟩,rfl,rfl⟩
   refine Z ?_
   exact Bu ((decide<|¬(y7 S nd)))<|bDw<|by unfold bc1 R8;simp_all<;>omega
  exact Bu ((false))<|bFw<|by unfold bc1 R8;simp_all<;>omega
 rintro aj hp
 have ab:(aj=decide (bc1 nd K no S)):=hp
 show W prog κ 114 _ _ ([(2,pt b1),(5,pt b2),(13,.bool aj)]:Env) (e8 b2 [.bool (decide<|K=1),.bool<|decide<|K=1\/K=4\/K=5,.bool<|decide<|K=3\/K=5,.bool<|decide<|K=2\/K=3,.func (.func<|fK K) #[] #[]] 132::e8 b1 [e7 K,e7 no,e7 lv,.slice sa S.length sc,e7 num,e7 den] 42::I)
 refine D8 C (λc13=>Z ?_)<|λc13=>?_
 ·exact Ak C C I Af ⟨Fz (λn=>Value.int .i64 n) (show 6=J3 nd K no lv S num den from by unfold J3;rw [An om,By<|Gc<|ab.symm.trans c13]),rfl⟩
 refine D2 (σ:=Bool) (λs=>([(2,pt b1),(5,pt b2),(44,.bool s)]:Env)) (λs=>e8 b2 [.bool (decide<|K=1),.bool<|decide<|K=1\/K=4\/K=5,.bool<|decide<|K=3\/K=5,.bool<|decide<|K=2\/K=3,.func (.func<|fK K) #[] #[]] 132::e8 b1 [e7 K,e7 no,e7 lv,.slice sa S.length sc,e7 num,e7 den] 42::I) (λs=>(s=decide (bc0 K lv num den))) ?_ ?_
 ·refine Z ?_
  refine Au (d:=47) C (λa3=>Z ?_)<|λa3=>Z ?_
  ·refine Au (d:=51) C (λaw=>Z ?_) (λaw=>Z ?_)
   ·exact Bu ((true))<|bTw<|by unfold bc0;simp_all<;>omega
   refine Au (d:=57) C (λaz=>Z ?_)<|λaz=>Z ?_
   ·exact Bu ((true))<|bTw<|by unfold bc0;simp_all<;>omega
   refine Au (d:=60) C (λao=>Z ?_)<|λao=>Z ?_
   ·refine D0 (B9 C C C) (Ac c_ C C<|ak8 (⟨num,den⟩:Fr)) ?_
    rintro _ _ ⟨_,_,⟨rfl,rfl⟩,rfl,rfl⟩
    refine Z ?_
    refine Au (d:=65) C (λav=>Z ?_)<|λav=>Z ?_
    ·exact Bu ((true))<|bTw<|by unfold bc0;simp_all<;>omega
    exact Bu ((decide<|num<0))<|bDw<|by unfold bc0;simp_all<;>omega
   exact Bu ((false))<|bFw<|by unfold bc0;simp_all<;>omega
  refine Au (d:=60) C (λao=>Z ?_)<|λao=>Z ?_
  ·refine D0 (B9 C C C) (Ac c_ C C<|ak8 (⟨num,den⟩:Fr)) ?_
   rintro _ _ ⟨_,_,⟨rfl,rfl⟩,rfl,rfl⟩
   refine Z ?_
   refine Au (d:=65) C (λav=>Z ?_)<|λav=>Z ?_
   ·exact Bu ((true))<|bTw<|by unfold bc0;simp_all<;>omega
   exact Bu ((decide<|num<0))<|bDw<|by unfold bc0;simp_all<;>omega
  exact Bu ((false))<|bFw<|by unfold bc0;simp_all<;>omega
 rintro ai hp
 have ad:(ai=decide (bc0 K lv num den)):=hp
 show W prog κ 114 _ _ ([(2,pt b1),(5,pt b2),(44,.bool ai)]:Env) (e8 b2 [.bool (decide<|K=1),.bool<|decide<|K=1\/K=4\/K=5,.bool<|decide<|K=3\/K=5,.bool<|decide<|K=2\/K=3,.func (.func<|fK K) #[] #[]] 132::e8 b1 [e7 K,e7 no,e7 lv,.slice sa S.length sc,e7 num,e7 den] 42::I)
 refine D8 C (λae=>Z ?_)<|λae=>?_
 ·exact Ak C C I Af ⟨Fz (λn=>Value.int .i64 n) (show 1=J3 nd K no lv S num den from by unfold J3;rw [An om,An<|Gt<|ab.symm.trans c13,By<|Gc<|ad.symm.trans ae]),rfl⟩
 refine D2 (σ:=Bool) (λs=>([(73,.bool s)]:Env)) (λs=>e8 b2 [.bool (decide<|K=1),.bool<|decide<|K=1\/K=4\/K=5,.bool<|decide<|K=3\/K=5,.bool<|decide<|K=2\/K=3,.func (.func<|fK K) #[] #[]] 132::e8 b1 [e7 K,e7 no,e7 lv,.slice sa S.length sc,e7 num,e7 den] 42::I) (λs=>(s=decide (V7 K no lv S num den))) ?_ ?_
 ·refine Z ?_
  refine Au (d:=77) C (λa0=>Z ?_)<|λa0=>Z ?_
  ·refine Au (d:=82) C (λa4=>Z ?_) (λa4=>Z ?_)
   ·exact Bu ((true))<|bTw<|by unfold V7;simp_all<;>omega
   refine Au (d:=86) C (λar=>Z ?_)<|λar=>Z ?_
   ·refine Au (d:=93) C (λan=>Z ?_) (λan=>Z ?_)
    ·exact Bu ((true))<|bTw<|by unfold V7;simp_all<;>omega
    refine Au (d:=97) C (λaa=>Z ?_)<|λaa=>Z ?_
    ·refine Au (d:=103) C (λE=>Z ?_) (λE=>Z ?_)
     ·exact Bu ((true))<|bTw<|by unfold V7;simp_all<;>omega
     refine Au (d:=107) C (λM=>Z ?_)<|λM=>Z ?_
     ·refine e9 (Dh (α:=Fr) (a:=(⟨num,den⟩:Fr)) (b:=(⟨0,0⟩:Fr)) ao5 C C) (Z ?_)
      exact Bu ((decide<|(⟨num,den⟩:Fr)≠(⟨0,0⟩:Fr)))<|bDw<|by unfold V7;simp_all<;>omega
     exact Bu ((false))<|bFw<|by unfold V7;simp_all<;>omega
    refine Au (d:=107) C (λM=>Z ?_)<|λM=>Z ?_
    ·refine e9 (Dh (α:=Fr) (a:=(⟨num,den⟩:Fr)) (b:=(⟨0,0⟩:Fr)) ao5 C C) (Z ?_)
     exact Bu ((decide<|(⟨num,den⟩:Fr)≠(⟨0,0⟩:Fr)))<|bDw<|by unfold V7;simp_all<;>omega
    exact Bu ((false))<|bFw<|by unfold V7;simp_all<;>omega
   refine Au (d:=97) C (λaa=>Z ?_)<|λaa=>Z ?_
   ·refine Au (d:=103) C (λE=>Z ?_) (λE=>Z ?_)
    ·exact Bu ((true))<|bTw<|by unfold V7;simp_all<;>omega
    refine Au (d:=107) C (λM=>Z ?_)<|λM=>Z ?_
    ·refine e9 (Dh (α:=Fr) (a:=(⟨num,den⟩:Fr)) (b:=(⟨0,0⟩:Fr)) ao5 C C) (Z ?_)
     exact Bu ((decide<|(⟨num,den⟩:Fr)≠(⟨0,0⟩:Fr)))<|bDw<|by unfold V7;simp_all<;>omega
    exact Bu ((false))<|bFw<|by unfold V7;simp_all<;>omega
   refine Au (d:=107) C (λM=>Z ?_)<|λM=>Z ?_
   ·refine e9 (Dh (α:=Fr) (a:=(⟨num,den⟩:Fr)) (b:=(⟨0,0⟩:Fr)) ao5 C C) (Z ?_)
    exact Bu ((decide<|(⟨num,den⟩:Fr)≠(⟨0,0⟩:Fr)))<|bDw<|by unfold V7;simp_all<;>omega
   exact Bu ((false))<|bFw<|by unfold V7;simp_all<;>omega
  refine Au (d:=86) C (λar=>Z ?_)<|λar=>Z ?_
  ·refine Au (d:=93) C (λan=>Z ?_) (λan=>Z ?_)
   ·exact Bu ((true))<|bTw<|by unfold V7;simp_all<;>omega
   refine Au (d:=97) C (λaa=>Z ?_)<|λaa=>Z ?_
   ·refine Au (d:=103) C (λE=>Z ?_) (λE=>Z ?_)
    ·exact Bu ((true))<|bTw<|by unfold V7;simp_all<;>omega
    refine Au (d:=107) C (λM=>Z ?_)<|λM=>Z ?_
    ·refine e9 (Dh (α:=Fr) (a:=(⟨num,den⟩:Fr)) (b:=(⟨0,0⟩:Fr)) ao5 C C) (Z ?_)
     exact Bu ((decide<|(⟨num,den⟩:Fr)≠(⟨0,0⟩:Fr)))<|bDw<|by unfold V7;simp_all<;>omega
    exact Bu ((false))<|bFw<|by unfold V7;simp_all<;>omega
   refine Au (d:=107) C (λM=>Z ?_)<|λM=>Z ?_
   ·refine e9 (Dh (α:=Fr) (a:=(⟨num,den⟩:Fr)) (b:=(⟨0,0⟩:Fr)) ao5 C C) (Z ?_)
    exact Bu ((decide<|(⟨num,den⟩:Fr)≠(⟨0,0⟩:Fr)))<|bDw<|by unfold V7;simp_all<;>omega
   exact Bu ((false))<|bFw<|by unfold V7;simp_all<;>omega
  refine Au (d:=97) C (λaa=>Z ?_)<|λaa=>Z ?_
  ·refine Au (d:=103) C (λE=>Z ?_) (λE=>Z ?_)
   ·exact Bu ((true))<|bTw<|by unfold V7;simp_all<;>omega
   refine Au (d:=107) C (λM=>Z ?_)<|λM=>Z ?_
   ·refine e9 (Dh (α:=Fr) (a:=(⟨num,den⟩:Fr)) (b:=(⟨0,0⟩:Fr)) ao5 C C) (Z ?_)
    exact Bu ((decide<|(⟨num,den⟩:Fr)≠(⟨0,0⟩:Fr)))<|bDw<|by unfold V7;simp_all<;>omega
   exact Bu ((false))<|bFw<|by unfold V7;simp_all<;>omega
  refine Au (d:=107) C (λM=>Z ?_)<|λM=>Z ?_
  ·refine e9 (Dh (α:=Fr) (a:=(⟨num,den⟩:Fr)) (b:=(⟨0,0⟩:Fr)) ao5 C C) (Z ?_)
   exact Bu ((decide<|(⟨num,den⟩:Fr)≠(⟨0,0⟩:Fr)))<|bDw<|by unfold V7;simp_all<;>omega
  exact Bu ((false))<|bFw<|by unfold V7;simp_all<;>omega
 rintro ak hp
 have ah:(ak=decide (V7 K no lv S num den)):=hp
 show W prog κ 114 _ _ ([(73,.bool ak)]:Env) (e8 b2 [.bool (decide<|K=1),.bool<|decide<|K=1\/K=4\/K=5,.bool<|decide<|K=3\/K=5,.bool<|decide<|K=2\/K=3,.func (.func<|fK K) #[] #[]] 132::e8 b1 [e7 K,e7 no,e7 lv,.slice sa S.length sc,e7 num,e7 den] 42::I)
 refine D8 C (λap=>Z ?_)<|λap=>Z ?_
 ·exact Ak C C I Af ⟨Fz (λn=>Value.int .i64 n) (show 34=J3 nd K no lv S num den from by unfold J3;rw [An om,An<|Gt<|ab.symm.trans c13,An<|Gt<|ad.symm.trans ae,By<|Gc<|ah.symm.trans ap]),rfl⟩
 exact Ak C C I Af ⟨Fz (λn=>Value.int .i64 n) (show 0=J3 nd K no lv S num den from by unfold J3;rw [An om,An<|Gt<|ab.symm.trans c13,An<|Gt<|ad.symm.trans ae,An<|Gt<|ah.symm.trans ap]),rfl⟩
theorem ao2{κ:Ctx}{E:Option Addr}{M:Nat}(hs:Sl κ I (.slice E S.length M) S):er prog κ 37 [.agg #[e7 (K),e7 (no),e7 (lv),.slice E S.length M,e7 (num),e7 (den)],e7 nd] I λr J=>r=e7 (J3 nd K no lv S num den)/\I=J:=by
 by_cases h:1<=K/\K<=5
 ·exact dm7 hs h
 exact (dm8 hs h).mono λr J q=>⟨by rw [q.1];unfold J3;rw [By h],q.2⟩
theorem fo8{κ:Ctx}(h:1<=K/\K<=5):er prog κ 90 [e7 K] I (λr J=>r = .tuple #[.bool (decide (K=1)),.bool (decide (K=1\/K=4\/K=5)),.bool (decide (K=3\/K=5)),.bool (decide (K=2\/K=3))]/\I=J):=by
 refine Ce1 Tryz.func90 C C<|Z ?_
 refine Am C (λM=>Z ?_)<|λM=>Z ?_
 ·have e:K=1:=by omega
  subst e
  exact V.gh0 C C C C C I Af ⟨rfl,rfl⟩
 refine Am C (λE=>Z ?_)<|λE=>Z ?_
 ·have e:K=2:=by omega
  subst e
  exact V.gh0 C C C C C I Af ⟨rfl,rfl⟩
 refine Am C (λc11=>Z ?_)<|λc11=>Z ?_
 ·have e:K=3:=by omega
  subst e
  exact V.gh0 C C C C C I Af ⟨rfl,rfl⟩
 refine Am C (λc13=>Z ?_)<|λc13=>Z ?_
 ·have e:K=4:=by omega
  subst e
  exact V.gh0 C C C C C I Af ⟨rfl,rfl⟩
 have e:K=5:=by omega
 subst e
 exact V.gh0 C C C C C I Af ⟨rfl,rfl⟩
theorem ao3{κ:Ctx}(hs:Sl κ I (.slice sa S.length sc) S)  :
    er prog κ 38 [.agg #[e7 K,e7 no,e7 lv,.slice sa S.length sc,e7 num,e7 den],e7 nd] I (λr J=>r=e7 (J3 nd K no lv S num den)/\I=J):=by
 refine Ce2 Tryz.func38 C C ?_
 refine Aj<|Ge1 (Ay (cs:=[_,_,_,_,_,_]) C C C) λb1=>Z ?_
 refine Au (d:=12) C (λa1=>Z ?_)<|λa1=>Z ?_
 ·exact Ak C C I Af ⟨Fz (λn=>Value.int .i64 n) (show 8=J3 nd K no lv S num den from by unfold J3;rw [By om]),rfl⟩
 refine Am C (λa5=>Z ?_)<|λa5=>Z ?_
 ·exact Ak C C I Af ⟨Fz (λn=>Value.int .i64 n) (show 8=J3 nd K no lv S num den from by unfold J3;rw [By om]),rfl⟩
 refine Gc0 (Ac c_ C C<|fo8 (K:=K) om) ?_
 refine Gm C<|Gr (Av C C)<|Gr (Av C C)<|Gr (Av C C)<|Gr (Av C C)<|Ga C<|Ga C<|Ga C<|Ga C<|Aq<|A0 (S6 8 7 6 5 2 1)<|Ax<|D2 (σ:=Bool) (λs=>([(2,pt b1),(5,.bool<|decide<|K=1),(6,.bool<|decide<|K=1\/K=4\/K=5),(7,.bool<|decide<|K=3\/K=5),(8,.bool<|decide<|K=2\/K=3),(52,.bool s)]:Env)) (λs=>e8 b1 [e7 K,e7 no,e7 lv,.slice sa S.length sc,e7 num,e7 den] 42::I) (λs=>(s=decide (bc1 nd K no S))) ?_ ?_
 ·refine Z ?_
  refine Au (d:=26) C (λa4=>Z ?_)<|λa4=>Z ?_
  ·refine Au (d:=30) C (λaz=>Z ?_) (λaz=>Z ?_)
   ·exact Bu ((true))<|bTw<|by unfold bc1 R8;simp_all<;>omega
   refine Au (d:=37) C (λa7=>Z ?_)<|λa7=>Z ?_
   ·exact Bu ((true))<|bTw<|by unfold bc1 R8;simp_all<;>omega
   refine Au (d:=39) C (λaq=>Z ?_)<|λaq=>Z ?_
   ·refine D0 (B9 C C C) (Ac c_ C C<|ci0 (Bc hs) nd) ?_
    rintro _ _ ⟨_,_,⟨rfl,rfl⟩,rfl,rfl⟩
    refine Z ?_
    refine Au (d:=45) C (λav=>Z ?_)<|λav=>Z ?_
    ·exact Bu ((true))<|bTw<|by unfold bc1 R8;simp_all<;>omega
    exact Bu ((decide<|((S.length:Nat):Int)=0))<|bDw<|by unfold bc1 R8;simp_all<;>omega
   exact Bu ((false))<|bFw<|by unfold bc1 R8;simp_all<;>omega
  refine Au (d:=39) C (λaq=>Z ?_)<|λaq=>Z ?_
  ·refine D0 (B9 C C C) (Ac c_ C C<|ci0 (Bc hs) nd) ?_
   rintro _ _ ⟨_,_,⟨rfl,rfl⟩,rfl,rfl⟩
   refine Z ?_
   refine Au (d:=45) C (λav=>Z ?_)<|λav=>Z ?_
   ·exact Bu ((true))<|bTw<|by unfold bc1 R8;simp_all<;>omega
   exact Bu ((decide<|((S.length:Nat):Int)=0))<|bDw<|by unfold bc1 R8;simp_all<;>omega
  exact Bu ((false))<|bFw<|by unfold bc1 R8;simp_all<;>omega
 rintro ao hp
 have ab:(ao=decide (bc1 nd K no S)):=hp
 show W prog κ 115 _ _ ([(2,pt b1),(5,.bool<|decide<|K=1),(6,.bool<|decide<|K=1\/K=4\/K=5),(7,.bool<|decide<|K=3\/K=5),(8,.bool<|decide<|K=2\/K=3),(52,.bool ao)]:Env) (e8 b1 [e7 K,e7 no,e7 lv,.slice sa S.length sc,e7 num,e7 den] 42::I)
 refine D8 C (λad=>Z ?_)<|λad=>?_
 ·exact Ak C C I Af ⟨Fz (λn=>Value.int .i64 n) (show 6=J3 nd K no lv S num den from by unfold J3;rw [An om,By<|Gc<|ab.symm.trans ad]),rfl⟩
 refine A4<|Al<|Ax<|D2 (σ:=Bool) (λs=>([(2,pt b1),(5,.bool<|decide<|K=1),(6,.bool<|decide<|K=1\/K=4\/K=5),(7,.bool<|decide<|K=3\/K=5),(8,.bool<|decide<|K=2\/K=3),(78,.bool s)]:Env)) (λs=>e8 b1 [e7 K,e7 no,e7 lv,.slice sa S.length sc,e7 num,e7 den] 42::I) (λs=>(s=decide (bc0 K lv num den))) ?_ ?_
 ·refine Z ?_
  refine Au (d:=54) C (λa0=>Z ?_)<|λa0=>Z ?_
  ·refine Au (d:=58) C (λa6=>Z ?_) (λa6=>Z ?_)
   ·exact Bu ((true))<|bTw<|by unfold bc0;simp_all<;>omega
   refine Au (d:=64) C (λax=>Z ?_)<|λax=>Z ?_
   ·exact Bu ((true))<|bTw<|by unfold bc0;simp_all<;>omega
   refine Au (d:=66) C (λar=>Z ?_)<|λar=>Z ?_
   ·refine D0 (B9 C C C) (Ac c_ C C<|ar0 (⟨num,den⟩:Fr)) ?_
    rintro _ _ ⟨_,_,⟨rfl,rfl⟩,rfl,rfl⟩
    refine Z ?_
    refine Au (d:=71) C (λaw=>Z ?_)<|λaw=>Z ?_
    ·exact Bu ((true))<|bTw<|by unfold bc0;simp_all<;>omega
    exact Bu ((decide<|num<0))<|bDw<|by unfold bc0;simp_all<;>omega
   exact Bu ((false))<|bFw<|by unfold bc0;simp_all<;>omega
  refine Au (d:=66) C (λar=>Z ?_)<|λar=>Z ?_
  ·refine D0 (B9 C C C) (Ac c_ C C<|ar0 (⟨num,den⟩:Fr)) ?_
   rintro _ _ ⟨_,_,⟨rfl,rfl⟩,rfl,rfl⟩
   refine Z ?_
   refine Au (d:=71) C (λaw=>Z ?_)<|λaw=>Z ?_
   ·exact Bu ((true))<|bTw<|by unfold bc0;simp_all<;>omega
   exact Bu ((decide<|num<0))<|bDw<|by unfold bc0;simp_all<;>omega
  exact Bu ((false))<|bFw<|by unfold bc0;simp_all<;>omega
 rintro an hp
 have ah:(an=decide (bc0 K lv num den)):=hp
 show W prog κ 115 _ _ ([(2,pt b1),(5,.bool<|decide<|K=1),(6,.bool<|decide<|K=1\/K=4\/K=5),(7,.bool<|decide<|K=3\/K=5),(8,.bool<|decide<|K=2\/K=3),(78,.bool an)]:Env) (e8 b1 [e7 K,e7 no,e7 lv,.slice sa S.length sc,e7 num,e7 den] 42::I)
 refine D8 C (λak=>Z ?_)<|λak=>?_
 ·exact Ak C C I Af ⟨Fz (λn=>Value.int .i64 n) (show 1=J3 nd K no lv S num den from by unfold J3;rw [An om,An<|Gt<|ab.symm.trans ad,By<|Gc<|ah.symm.trans ak]),rfl⟩
 refine A4<|Al<|Ax<|D2 (σ:=Bool) (λs=>([(114,.bool s)]:Env)) (λs=>e8 b1 [e7 K,e7 no,e7 lv,.slice sa S.length sc,e7 num,e7 den] 42::I) (λs=>(s=decide (V7 K no lv S num den))) ?_ ?_
 ·refine Z ?_
  refine Au (d:=81) C (λa3=>Z ?_)<|λa3=>Z ?_
  ·refine Au (d:=86) C (λay=>Z ?_) (λay=>Z ?_)
   ·exact Bu ((true))<|bTw<|by unfold V7;simp_all<;>omega
   refine Au (d:=89) C (λau=>Z ?_)<|λau=>Z ?_
   ·refine Au (d:=95) C (λap=>Z ?_) (λap=>Z ?_)
    ·exact Bu ((true))<|bTw<|by unfold V7;simp_all<;>omega
    refine Au (d:=98) C (λaa=>Z ?_)<|λaa=>Z ?_
    ·refine Au (d:=105) C (λE=>Z ?_) (λE=>Z ?_)
     ·exact Bu ((true))<|bTw<|by unfold V7;simp_all<;>omega
     refine Au (d:=108) C (λM=>Z ?_)<|λM=>Z ?_
     ·refine e9 (Dh (α:=Fr) (a:=(⟨num,den⟩:Fr)) (b:=(⟨0,0⟩:Fr)) ao5 C C) (Z ?_)
      exact Bu ((decide<|(⟨num,den⟩:Fr)≠(⟨0,0⟩:Fr)))<|bDw<|by unfold V7;simp_all<;>omega
     exact Bu ((false))<|bFw<|by unfold V7;simp_all<;>omega
    refine Au (d:=108) C (λM=>Z ?_)<|λM=>Z ?_
    ·refine e9 (Dh (α:=Fr) (a:=(⟨num,den⟩:Fr)) (b:=(⟨0,0⟩:Fr)) ao5 C C) (Z ?_)
     exact Bu ((decide<|(⟨num,den⟩:Fr)≠(⟨0,0⟩:Fr)))<|bDw<|by unfold V7;simp_all<;>omega
    exact Bu ((false))<|bFw<|by unfold V7;simp_all<;>omega
   refine Au (d:=98) C (λaa=>Z ?_)<|λaa=>Z ?_
   ·refine Au (d:=105) C (λE=>Z ?_) (λE=>Z ?_)
    ·exact Bu ((true))<|bTw<|by unfold V7;simp_all<;>omega
    refine Au (d:=108) C (λM=>Z ?_)<|λM=>Z ?_
    ·refine e9 (Dh (α:=Fr) (a:=(⟨num,den⟩:Fr)) (b:=(⟨0,0⟩:Fr)) ao5 C C) (Z ?_)
     exact Bu ((decide<|(⟨num,den⟩:Fr)≠(⟨0,0⟩:Fr)))<|bDw<|by unfold V7;simp_all<;>omega
    exact Bu ((false))<|bFw<|by unfold V7;simp_all<;>omega
   refine Au (d:=108) C (λM=>Z ?_)<|λM=>Z ?_
   ·refine e9 (Dh (α:=Fr) (a:=(⟨num,den⟩:Fr)) (b:=(⟨0,0⟩:Fr)) ao5 C C) (Z ?_)
    exact Bu ((decide<|(⟨num,den⟩:Fr)≠(⟨0,0⟩:Fr)))<|bDw<|by unfold V7;simp_all<;>omega
   exact Bu ((false))<|bFw<|by unfold V7;simp_all<;>omega
  refine Au (d:=89) C (λau=>Z ?_)<|λau=>Z ?_
  ·refine Au (d:=95) C (λap=>Z ?_) (λap=>Z ?_)
   ·exact Bu ((true))<|bTw<|by unfold V7;simp_all<;>omega
   refine Au (d:=98) C (λaa=>Z ?_)<|λaa=>Z ?_
   ·refine Au (d:=105) C (λE=>Z ?_) (λE=>Z ?_)
    ·exact Bu ((true))<|bTw<|by unfold V7;simp_all<;>omega
    refine Au (d:=108) C (λM=>Z ?_)<|λM=>Z ?_
    ·refine e9 (Dh (α:=Fr) (a:=(⟨num,den⟩:Fr)) (b:=(⟨0,0⟩:Fr)) ao5 C C) (Z ?_)
     exact Bu ((decide<|(⟨num,den⟩:Fr)≠(⟨0,0⟩:Fr)))<|bDw<|by unfold V7;simp_all<;>omega
    exact Bu ((false))<|bFw<|by unfold V7;simp_all<;>omega
   refine Au (d:=108) C (λM=>Z ?_)<|λM=>Z ?_
   ·refine e9 (Dh (α:=Fr) (a:=(⟨num,den⟩:Fr)) (b:=(⟨0,0⟩:Fr)) ao5 C C) (Z ?_)
    exact Bu ((decide<|(⟨num,den⟩:Fr)≠(⟨0,0⟩:Fr)))<|bDw<|by unfold V7;simp_all<;>omega
   exact Bu ((false))<|bFw<|by unfold V7;simp_all<;>omega
  refine Au (d:=98) C (λaa=>Z ?_)<|λaa=>Z ?_
  ·refine Au (d:=105) C (λE=>Z ?_) (λE=>Z ?_)
   ·exact Bu ((true))<|bTw<|by unfold V7;simp_all<;>omega
   refine Au (d:=108) C (λM=>Z ?_)<|λM=>Z ?_
   ·refine e9 (Dh (α:=Fr) (a:=(⟨num,den⟩:Fr)) (b:=(⟨0,0⟩:Fr)) ao5 C C) (Z ?_)
    exact Bu ((decide<|(⟨num,den⟩:Fr)≠(⟨0,0⟩:Fr)))<|bDw<|by unfold V7;simp_all<;>omega
   exact Bu ((false))<|bFw<|by unfold V7;simp_all<;>omega
  refine Au (d:=108) C (λM=>Z ?_)<|λM=>Z ?_
  ·refine e9 (Dh (α:=Fr) (a:=(⟨num,den⟩:Fr)) (b:=(⟨0,0⟩:Fr)) ao5 C C) (Z ?_)
   exact Bu ((decide<|(⟨num,den⟩:Fr)≠(⟨0,0⟩:Fr)))<|bDw<|by unfold V7;simp_all<;>omega
  exact Bu ((false))<|bFw<|by unfold V7;simp_all<;>omega
 rintro aj hp
 have ai:(aj=decide (V7 K no lv S num den)):=hp
 show W prog κ 115 _ _ ([(114,.bool aj)]:Env) (e8 b1 [e7 K,e7 no,e7 lv,.slice sa S.length sc,e7 num,e7 den] 42::I)
 refine D8 C (λae=>Z ?_)<|λae=>Z ?_
 ·exact Ak C C I Af ⟨Fz (λn=>Value.int .i64 n) (show 34=J3 nd K no lv S num den from by unfold J3;rw [An om,An<|Gt<|ab.symm.trans ad,An<|Gt<|ah.symm.trans ak,By<|Gc<|ai.symm.trans ae]),rfl⟩
 exact Ak C C I Af ⟨Fz (λn=>Value.int .i64 n) (show 0=J3 nd K no lv S num den from by unfold J3;rw [An om,An<|Gt<|ab.symm.trans ad,An<|Gt<|ah.symm.trans ak,An<|Gt<|ai.symm.trans ae]),rfl⟩
end Go.Sl
namespace Go.Sl
def ay6(rs:List Rg)(on:List Bool):List Bool:=rs.foldl (λl r=>l.set r.al.toNat r.on) on
def stepT(T:Int)(st:List Bool×List Bool)(r:Rg):List Bool×List Bool:=(st.1.set r.al.toNat r.on,if r.tm<=T then st.2.set r.al.toNat r.on else st.2)
def az5(T:Int)(st:List Bool×List Bool)(rs:List Rg):List Bool×List Bool:=rs.foldl (stepT T) st
theorem am1{T:Int}{st:List Bool×List Bool}{rs:List Rg}{k:Nat}(M:k<rs.length):az5 T st (rs.take (k+1))=stepT T (az5 T st (rs.take k)) (e_ rs k):=by
 unfold az5;rw [W7 rs k M,Hw];rfl
theorem be2(T:Int):∀(rs:List Rg) (st:List Bool×List Bool),(az5 T st rs).1.length=st.1.length/\(az5 T st rs).2.length=st.2.length
 |[],st=>⟨rfl,rfl⟩
 |r::rs,st=>by
  obtain ⟨h1,M⟩:=be2 T rs (stepT T st r)
  have e1:(stepT T st r).1.length=st.1.length:=Gd
  have E:(stepT T st r).2.length=st.2.length:=by
   unfold stepT;simp only;split
   ·exact Gd
   rfl
  exact ⟨h1.trans e1,M.trans E⟩
theorem be3(T:Int):∀(rs:List Rg) (st:List Bool×List Bool),(az5 T st rs).1=ay6 rs st.1
 |[],st=>rfl
 |r::rs,st=>be3 T rs (stepT T st r)
def cm0:List Bool->List Rg->Prop
 |_,[]=>True
 |on,r::rs=>((0<=r.al/\r.al<on.length)/\e_ on r.al≠r.on)/\cm0 (on.set r.al.toNat r.on) rs
theorem cu6:∀{a b:List Rg} {on:List Bool},cm0 on a->cm0 (ay6 a on) b->cm0 on (a++b)
 |[],b,on,_,h=>h
 |r::a,b,on,h1,h2=>⟨h1.1,cu6 h1.2 h2⟩
theorem dp7:∀{rs:List Rg} {on:List Bool},cm0 on rs->∀k:Nat,k<rs.length->(0<=(e_ rs k).al/\(e_ rs k).al<on.length)/\e_ (ay6 (rs.take k) on) (e_ rs k).al≠(e_ rs k).on
 |[],on,_,k,hk=>by simp at hk
 |r::rs,on,h,0,_=>h.1
 |r::rs,on,h,k+1,hk=>by
  have M:=dp7 h.2 k (by simpa using hk)
  have e:e_ (r::rs) ((k+1:Nat):Int)=e_ rs k:=by rw [au2,au2];rfl
  rw [e]
  rw [Gd] at M
  exact M
end Go.Sl
namespace Go.Sl
open Go.Proofs
set_option maxRecDepth 4000
variable{den nd num:Int}{es:List Pt}{ea sa:Option Addr}{ec sc:Nat}{xs:List Int}
variable {κ:Ctx}{I:List Item}
attribute [local irreducible] W G V D A j0 Eff
theorem cs5.fu6{N D:Int}{B:BitVec 64}(h:cs5 nd es N D B)(M:G8 nd es)(hf:FrW ⟨num,den⟩):0<=ak2 ⟨N,D⟩ ⟨num,den⟩↔cp5 nd es num den:=by
 rw [dy4]
 unfold cp5
 by_cases hn:nd=0
 ·obtain ⟨h1,h2,_⟩:=h.none (j6.2 M) hn
  subst h1 h2
  rw [By hn]
  show num*1<=0*den↔_
  omega
 rw [An hn]
 have E:=h.some (j6.2 M) hn
 exact E.dens.reach E.den.1 hf.d0
theorem av0:∀{xs:List Int} {n:Int},y7 xs n->0<=n->(xs.length:Int)<=n:=fun {xs n} h h0=>by
 by_cases hx:0<xs.length
 ·have M:∀j:Nat,j<xs.length->(j:Int)<=e_ xs j:=λj=>by
   induction j with
   |zero=>intro hj;have:=(h 0 hj).1;omega
   |succ j ih=>
    intro hj
    have h1:=ih om
    have E:=(h (j+1) hj).2 om
    rw [show (((j+1:Nat):Int) - 1)=(j:Int) by omega] at E
    omega
  have h1:=M (xs.length - 1) om
  have E:=(h (xs.length - 1) om).1
  omega
 omega
theorem fd0(hl:Sl κ I (.slice ea es.length ec) es)(hs:Sl κ I (.slice sa xs.length sc) xs)(hG:G8 nd es)(hf:FrW ⟨num,den⟩)(hT:P6 κ I 0 F3):er prog κ 145 [.agg #[e7 nd,.slice ea es.length ec],.agg #[e7 2,e7 0,e7 0,.slice sa xs.length sc,e7 num,e7 den]] I (λr J=>∃t:Bool,r = .bool t/\(t=true↔cp5 nd es num den)/\I=J):=by
 refine Ce2 Tryz.func145 C C ?_
 refine Aj<|Ge1 (Ay (cs:=[_,_]) C C C) λb1=>Ge1 (Ay (cs:=[_,_,_,_,_,_]) C C C) λb2=>Z ?_
 refine G.e (Ac c_ C C<|fs3 (nd:=nd) (Bc hl)<|Cb hT Af) ?_
 rintro _ _ ⟨_,_,⟨ad,ab,Bqq7,ah,ae,aa,Nqq7,Dqq7,Eqq7,rfl,⟨M,aj⟩,rfl⟩,rfl,rfl⟩
 have ai:=(M.frv hG).w
 refine Z ?_
 refine Ge1 (Ah ah4 C) λb8=>Ge0 (Fp ah4)<|Z ?_
 refine Au (d:=14) C (λE=>Z ?_)<|λE=>?_
 ·refine D0 (B9 C C C) (Ac c_ C C<|bs6 (⟨Nqq7,Dqq7⟩:Fr) (⟨num,den⟩:Fr) asm asm) ?_
  rintro _ _ ⟨_,_,⟨rfl,rfl⟩,rfl,rfl⟩
  refine Z ?_
  exact Ak C C I Af ⟨decide<|0<=(ak2 (⟨Nqq7,Dqq7⟩:Fr) (⟨num,den⟩:Fr)),rfl,by rw [Jw];exact M.fu6 hG hf,rfl⟩
 exact absurd (j6.2 hG) E
theorem fc9(hl:Sl κ I (.slice ea es.length ec) es)(hs:Sl κ I (.slice sa xs.length sc) xs)(E:G8 nd es)(hx:0<xs.length/\xs.length<=64)(aa:y7 xs nd)(hf:FrW ⟨num,den⟩)(hT:P6 κ I 0 F3):er prog κ 146 [.agg #[e7 nd,.slice ea es.length ec],.agg #[e7 3,e7 0,e7 0,.slice sa xs.length sc,e7 num,e7 den]] I (λr J=>∃t:Bool,r = .bool t/\(t=true↔0<=ak2 (Z6 nd es xs) ⟨num,den⟩)/\I=J):=by
 refine Ce2 Tryz.func146 C C ?_
 refine Aj<|Ge1 (Ay (cs:=[_,_]) C C C) λb1=>Ge1 (Ay (cs:=[_,_,_,_,_,_]) C C C) λb2=>Z ?_
 refine Gc0 (Ac c_ C C<|cr9 (nd:=nd) (Bc hl) (Bc hs)<|by have:=an2 E;omega)<|Z ?_
 refine Ge1 (Ah P0 C) λb3=>Ge0 (Ba P0)<|Z ?_
 refine Au (d:=16) C (λM=>Z ?_)<|λM=>?_
 ·refine D0 (B9 C C C) (Ac c_ C C<|bs6 (Z6 nd es xs) (⟨num,den⟩:Fr) (bh7 E xs).w asm) ?_
  rintro _ _ ⟨_,_,⟨rfl,rfl⟩,rfl,rfl⟩
  refine Z ?_
  exact Ak C C I Af ⟨decide<|0<=(ak2 (Z6 nd es xs) (⟨num,den⟩:Fr)),rfl,by rw [Jw],rfl⟩
 exact absurd (j6.2 E) M
theorem bk4{x:AlV}(hl:Sl κ I (.slice ea es.length ec) es)(hs:Sl κ I (.slice x.a x.xs.length x.c) x.xs)(hG:G8 nd es)(h:AlW nd x)(hT:P6 κ I 0 F3):er prog κ (fK x.kd) [.agg #[e7 nd,.slice ea es.length ec],x.cells] I λr J=>r = .bool (U4 nd es x)/\I=J:=by
 refine fz5 ?_
 have aa:=hG.rng
 obtain ⟨kd,no,lv,a,c,xs,num,den⟩:=x
 unfold AlV.cells ao6
 have hk:=h.kind
 simp only at hk hs ⊢
 obtain e|e|e|e|e:kd=1\/kd=2\/kd=3\/kd=4\/kd=5:=by omega
 all_goals subst e
 ·obtain ⟨E,h2,h3,M,h5⟩:=h.k1 rfl
  simp only at E h2 h3 M h5
  subst h3 M h5
  exact fr3 hl hs hG E hT
 ·obtain ⟨E,h2,h3,M⟩:=h.k2 rfl
  simp only at E h2 h3 M
  subst E h2 h3
  exact fd0 hl hs hG M hT
 ·obtain ⟨E,h2,h3,M,h5⟩:=h.k3 rfl
  simp only at E h2 h3 M h5
  subst E h2
  exact fc9 hl hs hG ⟨h3,by have:=av0 M om;omega⟩ M h5 hT
 ·obtain ⟨E,h2,h3,M,h5⟩:=h.k4 rfl
  simp only at E h2 h3 M h5
  subst E h3 M h5
  exact fr2 hl hs hG hT
 obtain ⟨E,h2,h3,M,h5,h6⟩:=h.k5 rfl
 simp only at E h2 h3 M h5 h6
 subst E h5 h6
 exact fr1 hl hs hG ⟨h3,by have:=av0 M om;omega⟩ M hT
def aj6(nd:Int)(es:List Pt)(x:AlV):Int:=if p9 nd es≠0 then p9 nd es else x.err nd
noncomputable def bm6(nd:Int)(es:List Pt)(x:AlV):Bool:=if aj6 nd es x=0 then U4 nd es x else false
theorem aw3{x:AlV}(h:p9 nd es≠0):aj6 nd es x=p9 nd es:=by unfold aj6;rw [By h]
theorem aj5{x:AlV}(h:¬p9 nd es≠0):aj6 nd es x=x.err nd:=by unfold aj6;rw [An h]
theorem am7{x:AlV}(h:aj6 nd es x≠0):bm6 nd es x=false:=by unfold bm6;rw [An h]
theorem as9{x:AlV}(h:aj6 nd es x=0):bm6 nd es x=U4 nd es x:=by unfold bm6;rw [By h]
theorem cj7{x:AlV}(E:Sl κ I (.slice ea es.length ec) es)(hs:Sl κ I (.slice x.a x.xs.length x.c) x.xs)(hT:P6 κ I 0 F3):er prog κ 29 [.agg #[e7 nd,.slice ea es.length ec],.agg #[e7 (x.kd),e7 (x.no),e7 (x.lv),.slice x.a x.xs.length x.c,e7 (x.num),e7 (x.den)]] I (λr J=>r = .tuple #[.bool (bm6 nd es x),e7 (aj6 nd es x)]/\I=J):=by
 refine Ce2 Tryz.func29 C C ?_
 refine Aj<|Ge1 (Ay (cs:=[_,_]) C C C) λb1=>Ge1 (Ay (cs:=[_,_,_,_,_,_]) C C C) λb2=>Z ?_
 refine Gc0 (Ac c_ C C<|M1<|Bc E)<|Z ?_
 refine Am C (λc11=>Z ?_)<|λc11=>Z ?_
 ·exact B5 C C C I Af ⟨by rw [am7 (by rw [aw3 c11];exact c11),aw3 c11]<;>rfl,rfl⟩
 refine G.e (Ac c_ C C<|ao2 (nd:=nd) (K:=x.kd) (no:=x.no) (lv:=x.lv) (S:=x.xs) (num:=x.num) (den:=x.den)<|Bc hs) ?_
 rintro _ _ ⟨_,_,⟨rfl,rfl⟩,rfl,rfl⟩
 refine Z ?_
 refine Am C (λM=>Z ?_)<|λM=>?_
 ·exact B5 C C C I Af ⟨by rw [am7 (by rw [aj5 c11];exact M),aj5 c11]<;>rfl,rfl⟩
 refine A4<|Al<|Ax<|A8 mixed<|Cf (e8 b2 [e7 (x.kd),e7<|x.no,e7<|x.lv,.slice x.a x.xs.length x.c,e7<|x.num,e7<|x.den] 42::e8 b1 [e7 nd,.slice ea es.length ec] 48::I) 9<|Z ?_
 refine Ds1 2<|Se C (Ac c_ C C<|bz1 (AlW.of<|B_.1 M).kind) ?_
 rintro _ _ ⟨_,_,⟨rfl,rfl⟩,rfl,rfl⟩
 refine ⟨Ar,?_⟩
 refine Dr 3 C (j0.fu7 (λw=>fu8 _ _ _ _ _ w) C) ?_
 refine Ds1 6<|Se C (C0 (dw1 (AlW.of<|B_.1 M).kind) (first:=[]) (caps:=[]) C C C<|bk4 (x:=x) (Bc E) (Bc hs) (j6.1<|B_.1 c11) (AlW.of<|B_.1 M)<|Cb hT Af) ?_
 rintro _ _ ⟨_,_,⟨rfl,rfl⟩,rfl,rfl⟩
 refine ⟨Ar,?_⟩
 refine Z ?_
 have hz:aj6 nd es x=0:=(aj5 c11).trans (B_.1 M)
 exact B5 C C C I Af ⟨by rw [as9 hz,hz],rfl⟩
end Go.Sl
namespace Go.Sl
open Go.Proofs
set_option maxRecDepth 4000
variable{kd mo nd t wd:Int}{xs:List Lk}{k:Nat}{es:List Ev}{on:List Bool}{out:List Rg}
def j5(kd wd mo:Int)(es:List Ev):List Int:=cm3 (ay0 kd wd mo es)
theorem ad4(h:k<xs.length)(E:kd=2)(M:(e_ xs k).tm+wd<=1048576):(L8 kd wd (xs.take (k+1))).map Ev.tm=(L8 kd wd (xs.take k)).map Ev.tm++[(e_ xs k).tm+wd]:=by
 rw [bb2 h E M,Jb];rfl
theorem W3(h:k<xs.length)(M:¬kd=2\/¬(e_ xs k).tm+wd<=1048576):(L8 kd wd (xs.take (k+1))).map Ev.tm=(L8 kd wd (xs.take k)).map Ev.tm:=by rw [ap8 h M]
theorem fp1{κ:Ctx}{I:List Item}{ea:Option Addr}{ec:Nat}(hl:Sl κ I (.slice ea es.length ec) es)(hH:G6 nd kd wd mo es)(hlen:es.length<=19):er prog κ 80 [e7 nd,.slice ea es.length ec,.agg #[e7 kd,e7 wd,e7 mo]] I (λr J=>∃a c,r = .slice a (j5 kd wd mo es).length c/\J=vq 3 a c (j5 kd wd mo es)::I):=by
 refine Ce3 Tryz.func80 C C ?_
 refine Aj<|Ge1 (Ay (cs:=[_,_,_]) C C C) λb1=>Ga C<|Aq<|Aj<|Ge1 (Bt (α:=Int) (cs:=[_]) (xs:=[0]) Ab ef C C dc dc C C C C) λao=>?_
 refine Ga C<|Aq<|Aj<|Gm C<|Gm C<|Gl3 ah8 ?_
 refine G.e (Ac c_ C C<|bs2 (nd:=nd) (kd:=kd) (wd:=wd) (mo:=mo) (es:=es) (Bc hl) hH) ?_
 rintro _ _ ⟨_,_,⟨ad,ae,rfl,rfl⟩,rfl,rfl⟩
 refine Gm C<|Gr (Av C C)<|Gr (Av C C)<|Ga C<|Ga C ?_
 generalize hSE:(q9 kd wd mo es).2=SE
 have aj:∀e∈SE,H6 nd e:=by rw [←hSE];exact hH.fit
 have a4:SE.length<=38:=by rw [←hSE];have:=hH.ge4;omega
 have a5:(eh SE).length<=19:=by rw [←hSE];have:=hH.len;omega
 refine Aq<|A0 (S4 8 7 5 0)<|Aj<|Gm C<|Gr (B1 (cells:=[_,_]) s5 Dc bu9 C C)<|Ge1 (Ah s5 C) λb5=>Ge0 (Ba s5) ?_
 refine Fo (J:=vc 146 (.slice none 0 0) (([]:List Lk))::e8 b5 [e7 nd,.slice none 0 0] 111::vq 108 ad ae (SE)::vc 3 (.slice ao 1 1) (([0]:List Int))::e8 b1 [e7 kd,e7 wd,e7 mo] 31::I) (Bb (α:=Lk) _ _) ?_
 refine Aq<|Ax<|Aj<|Gm C<|Gr (Bj As C)<|Gm C<|Aq<|A3<|B4 (σ:=Nat×(Option Addr)×Nat×(Option Addr)×Nat×(List Int)) (λs=>([(5,pt b1),(7,.slice s.2.2.2.1 s.2.2.2.2.2.length s.2.2.2.2.1),(10,pt b5),(26,.slice ad (SE).length ae),(27,e7<|(((SE).length:Nat):Int)),(28,e7 ((s.1:Nat):Int))]:Env)) (λs=>vq 146 s.2.1 s.2.2.1 (eh<|SE.take s.1)::vq 3 s.2.2.2.1 s.2.2.2.2.1 s.2.2.2.2.2::e8 b5 [e7 nd,.slice s.2.1 (eh<|SE.take s.1).length s.2.2.1] 111::vq 108 ad ae (SE)::e8 b1 [e7 kd,e7 wd,e7 mo] 31::I) (λs=>(s.1<=SE.length)/\(s.2.2.2.2.2=0::(SE.take s.1).map Ev.tm)) (λs=>SE.length - s.1) (0,none,0,ao,1,[0]) ⟨om,rfl⟩ (Aa C<|Aa (Da C<|by first|rfl|simp)<|cx2<|Aa C<|Aa Co A9) Bi ?_
 rintro ⟨k,a,c,oa,oc,out⟩ hp
 dsimp only at hp ⊢
 obtain ⟨hk,ho⟩:=hp
 have a3:out.length=k+1:=by rw [ho,Fu,Gi,Fx];omega
 refine Aj<|Gr (Bp C C)<|Aq<|Ax<|Am C (λar=>?_)<|λar=>?_
 ·refine A4 (Al<|Ax<|A3<|Aj<|Gr (A2 (α:=Ev) (xs:=SE) As j7 C C A6 om om)<|Gr (Cd (α:=Ev) (xs:=SE) j7 C A6 om om)<|Ge1 (Ah j7 C) λb6=>Ge0 (Fa j7) ?_)
  refine Aq<|Aj<|Gl2 s5 ?_
  refine Gl7 j7 ?_
  refine G.e (Ac c_ C C<|Cm (J:=vq 146 a c (eh<|SE.take k)::e8 b6 (ye (e_ SE k)) 108::vq 3 oa oc out::e8 b5 [e7 nd,.slice a (eh<|SE.take k).length c] 111::vq 108 ad ae (SE)::e8 b1 [e7 kd,e7 wd,e7 mo] 31::I) Bi<|bk8 (nd:=nd) (e:=(e_ SE k)) (xs:=eh (SE.take k)) (M3 hH.st.nodes aj k) (aj _<|B3 om om)<|by have:=Z1 (M3 hH.st.nodes aj k);omega) ?_
  rintro _ _ ⟨_,_,⟨aw,ay,ba,rfl,rfl⟩,rfl,rfl⟩
  refine Gm C<|Gr (Av C C)<|Gr (Av C C)<|Gr (Av C C)<|Ge0 (Ba s5) ?_
  refine Aq<|A0 (S7 12 5 7 10 26 27 28)<|A1<|Gm C<|Gf K0 C<|Gl ef ?_
  refine Ge1 (Bt (α:=Int) (cs:=[_]) (xs:=[(e_ SE k).tm]) Ab ef C C dc dc C C C C) λa1=>?_
  refine Ge2 (Bv (α:=Int) (e:=3) (xs:=out) (ys:=([(e_ SE k).tm]:List Int)) Ab ef C C C mm A6 lcn dc C<|λ_ _=>am) λak an=>?_
  exact Ga C<|Bl<|Ap<|Al<|A1<|Gr (Rad C C)<|Gm C<|Bl<|Bh ((k+1),(aw),(ay),(ak),(an),(out++([(e_ SE k).tm]:List Int))) (by dsimp only;exact ⟨om,(by rw [ho,Cn SE k om,Jb];rfl)⟩) (hI:=by (try dsimp only);exact (by rw [ab0 om];exact Bi))
 refine B6<|Ao<|Ao<|A5<|Al<|Ax<|Aj<|Gf H0 C ?_
 have ai:SE.take k=SE:=Gb om
 rw [ai] at ho ⊢
 have au:j8 nd (eh SE)=0:=by have:=M3 hH.st.nodes aj k;rwa [ai] at this
 refine Gl R7 ?_
 refine Gr (Bj Aw C)<|Gm C<|Aq<|A3<|B4 (σ:=Nat×(Option Addr)×Nat×(List Int)) (λs=>([(5,pt b1),(7,.slice s.2.1 s.2.2.2.length s.2.2.1),(46,.slice a (eh SE).length c),(47,e7<|(((eh SE).length:Nat):Int)),(48,e7 ((s.1:Nat):Int))]:Env)) (λs=>vq 146 a c (eh SE)::vq 3 s.2.1 s.2.2.1 s.2.2.2::e8 b5 [e7 nd,.slice a (eh SE).length c] 111::vq 108 ad ae (SE)::e8 b1 [e7 kd,e7 wd,e7 mo] 31::I) (λs=>(s.1<=(eh SE).length)/\(s.2.2.2=0::(SE.map Ev.tm++(L8 kd wd<|(eh SE).take s.1).map Ev.tm))) (λs=>(eh SE).length - s.1) (0,oa,oc,out) ⟨om,(by rw [ho];simp [L8])⟩ (Aa C<|Aa (Da C<|by first|rfl|simp)<|cx2<|Aa Co A9) Ar ?_
 rintro ⟨k2,ab,aa,M⟩ hp
 dsimp only at hp ⊢
 obtain ⟨a6,E⟩:=hp
 have az:M.length<=SE.length+k2+1:=by rw [E,Fu,A_,Gi,Gi];have h1:=ad5 kd wd ((eh SE).take k2);rw [Fx] at h1;omega
 have a8:=ad9 hH.win
 refine Aj<|Gr (Bp C C)<|Aq<|Ax<|Am C (λav=>?_)<|λav=>?_
 ·refine A4 (Al<|Ax<|A3<|Aj<|Gr (A2 (α:=Lk) (xs:=eh SE) Aw p7 C C A6 om om)<|Gr (Cd (α:=Lk) (xs:=eh SE) p7 C A6 om om)<|Ge1 (Ah p7 C) λa7=>Ge0 (Dp p7) ?_)
  have a9:=au1 au (k2:Int) om om
  refine Aq<|Aj<|Gf am9 C<|Gl ef ?_
  refine Gf bw4 C<|Gl ef ?_
  refine Gr (Rad C C)<|Ga C<|Aq<|A0 (S6 15 5 7 46 47 48)<|Aj<|Gf ac5 C<|Gl ef ?_
  refine Gr (B7 C C)<|Gm C<|Au (d:=60) C (λah=>?_)<|λah=>?_
  ·refine e9 (Ad C) (e9 (E4 C C)<|Gr (Br C C)<|Aq<|A0 (S7 63 15 5 7 46 47 48)<|Am C (λax=>?_)<|λax=>?_)
   ·refine A1 (Gm C<|Gm C<|Ge1 (Bt (α:=Int) (cs:=[_]) (xs:=[((e_ (eh SE) k2).tm)+wd]) Ab ef C C dc dc C C C C) λa0=>?_)
    refine Ge2 (Bv (α:=Int) (e:=3) (xs:=M) (ys:=([((e_ (eh SE) k2).tm)+wd]:List Int)) Ab ef C C C mm A6 lcn dc C<|λ_ _=>am) λap aq=>?_
    exact Ga C<|Bl<|Ap<|Al<|A1<|Gr (Rad C C)<|Gm C<|Bl<|Bh ((k2+1),(ap),(aq),(M++([((e_ (eh SE) k2).tm)+wd]:List Int)))<|by dsimp only;exact ⟨om,(by first|(rw [E,ad4 om ah asm,Mb,H1])|(rw [E,W3 om<|.inl ah])|(rw [E,W3 om<|.inr asm]))⟩
   exact A4<|Ap<|Al<|A1<|Gr (Rad C C)<|Gm C<|Bl<|Bh ((k2+1),(ab),(aa),(M))<|by dsimp only;exact ⟨om,(by first|(rw [E,ad4 om ah asm,Mb,H1])|(rw [E,W3 om<|.inl ah])|(rw [E,W3 om<|.inr asm]))⟩
  exact eb<|eb<|Gr (Bg C C)<|Aq<|A0 (S7 63 15 5 7 46 47 48)<|W.no C<|A4<|Ap<|Al<|A1<|Gr (Rad C C)<|Gm C<|Bl<|Bh ((k2+1),(ab),(aa),(M))<|by dsimp only;exact ⟨om,(by first|(rw [E,ad4 om ah asm,Mb,H1])|(rw [E,W3 om<|.inl ah])|(rw [E,W3 om<|.inr asm]))⟩
 refine B6<|Ao<|Ao<|A5<|Al<|Aj<|Gm C<|Gc1 (Ac c_ C C<|Cm (J:=vq 3 ab aa M::vq 146 a c (eh SE)::e8 b5 [e7 nd,.slice a (eh SE).length c] 111::vq 108 ad ae (SE)::e8 b1 [e7 kd,e7 wd,e7 mo] 31::I) Bi<|bu1 om) ?_
 refine Aq<|Aj<|Gm C<|G.e (Ac c_ C C<|Cm (J:=vc 3 (.slice ab M.length aa) (Y4 M)::vq 146 a c (eh SE)::e8 b5 [e7 nd,.slice a (eh SE).length c] 111::vq 108 ad ae (SE)::e8 b1 [e7 kd,e7 wd,e7 mo] 31::I) Bi<|ax8 (xs:=Y4 M) (by exact (Ex _).symm)<|by first|omega|(rw [Ex];omega)) ?_
 rintro _ _ ⟨_,_,⟨rfl,rfl⟩,rfl,rfl⟩
 show G prog κ _ _ _ _ ([(72,.slice ab (cm3 M).length aa),(71,.slice ab M.length aa),(70,.tuple #[]),(69,.slice ab M.length aa),(49,.bool<|decide<|(k2:Int)<(((eh SE).length:Nat):Int)),(5,pt b1),(7,.slice ab M.length aa),(46,.slice a (eh SE).length c),(47,e7<|(((eh SE).length:Nat):Int)),(48,e7<|(k2:Int))]:Env) (vq 3 ab aa (cm3 M)::vq 146 a c (eh SE)::e8 b5 [e7 nd,.slice a (eh SE).length c] 111::vq 108 ad ae (SE)::e8 b1 [e7 kd,e7 wd,e7 mo] 31::I)
 refine Ga C<|Aq<|Bq ?_
 have hE:M=ay0 kd wd mo es:=by rw [E,Gb om];unfold ay0;rw [hSE]
 exact Ak C C (vq 3 ab aa (j5 kd wd mo es)::I) (by unfold j5;rw [←hE];exact Bi) ⟨ab,aa,by unfold j5;rw [←hE],rfl⟩
instance:Enc Rg:=⟨λr=>[e7 r.tm,e7 r.al,.bool r.on],3,by omega,λ_=>rfl,λr u hu=>by
 simp only [Gh,Hy,Kx] at hu
 rcases hu with rfl|rfl|rfl<;>rfl⟩
noncomputable def alH(nd kd wd mo:Int)(es:List Ev)(als:List AlV)(t:Int)(i:Nat):Bool:=U4 nd (atG kd wd mo es t) (e_ als i)
noncomputable def bo7(nd kd wd mo:Int)(es:List Ev)(als:List AlV):List Rg:=(av7 (alH nd kd wd mo es als) als.length (j5 kd wd mo es)).2
theorem as1(t:Int)(h:Nat->Bool):∀(k:Nat) (st:List Bool×List Rg),(W8 t h k st).1.length=st.1.length/\(W8 t h k st).2.length<=st.2.length+k
 |0,st=>⟨rfl,Gk _⟩
 |k+1,st=>by
  obtain ⟨M,E⟩:=as1 t h k st
  rw [am5]
  unfold dd5
  split
  ·exact ⟨M,by omega⟩
  exact ⟨by simp only [Gd];exact M,by simp only [A_,Fu,F_];omega⟩
theorem av1(hH:G6 nd kd wd mo es):∀t∈j5 kd wd mo es,0<=t/\t<=1048576:=λt E=>by
 have h:=af6.1 E
 unfold ay0 at h
 rcases Gh.1 h with h|h
 ·omega
 rcases Gu.1 h with h|h
 ·obtain ⟨e,M,rfl⟩:=Ha.1 h
  exact (hH.fit e M).tm
 obtain ⟨e,M,rfl⟩:=Ha.1 h
 have:=hH.allFit e (K_ _<|(E6 _ _).mem_iff.2 M)
 exact this.tm
theorem av2(hH:G6 nd kd wd mo es)(hlen:es.length<=19):(j5 kd wd mo es).length<=58:=by
 have M:=by7 (ay0 kd wd mo es)
 have E:=hH.ge4
 have h3:=hH.len
 have h4:=ad5 kd wd (eh (q9 kd wd mo es).2)
 unfold j5
 unfold ay0 at M ⊢
 rw [Fu,A_,Gi,Gi] at M
 omega
theorem bf3(H:Int->Nat->Bool)(n:Nat)(M:List Int):∀k,k<=M.length->(av7 H n (M.take k)).1.length=n/\(av7 H n (M.take k)).2.length<=n*k
 |0,_=>⟨Fw,Le _⟩
 |k+1,hk=>by
  obtain ⟨E,h2⟩:=bf3 H n M k om
  rw [av6 om]
  obtain ⟨h3,h4⟩:=as1 (e_ M k) (H<|e_ M k) n (av7 H n<|M.take k)
  exact ⟨by rw [h3,E],by rw [Nat.mul_succ];omega⟩
theorem ba6{h:Nat->Bool}{p:List Bool×List Rg}(E:(on,out)=W8 t h k p)(M:h k≠e_ on k):(List.set on ((k:Int)).toNat (h k),out++[(⟨t,(k:Int),h k⟩:Rg)])=W8 t h (k+1) p:=by
 rw [am5,←E]
 unfold dd5
 rw [An M,Hu]
theorem bu4{h:Nat->Bool}{p:List Bool×List Rg}(E:(on,out)=W8 t h k p)(M:¬h k≠e_ on k):(on,out)=W8 t h (k+1) p:=by
 rw [am5,←E]
 unfold dd5
 rw [By (B_.1 M)]
end Go.Sl
namespace Go.Sl
def fe7:Int ⊕ Bool->Value
 | .inl n=>e7 n
 | .inr b=> .bool b
def gs3:Int ⊕ Bool->Bool
 | .inl _=>true
 | .inr _=>false
section
variable {P:Program}
def dv7(P:Program):List Field->List Bool->Nat->Bool
 |[],_,_=>true
 |f::fs,[],_=>false
 | f :: fs, k :: ks, o => (f.name != "_") && (match P.underlying f.type with | some (.int .i64) => k | some .bool => !k | _ => false) && (f.offset == o) && dv7 P fs ks (o + 1)
theorem cc3(d:Nat)(w:World)(ns ms:List (Int ⊕ Bool)):∀(fs:List Field) (ks:List Bool) (o:Nat),dv7 P fs ks o=true->ns.length=o+fs.length->ms.length=o+fs.length->(ns.drop o).map gs3=ks->(ms.drop o).map gs3=ks->
  (Op.eqFields (d+1) (ns.map fe7).toArray (ms.map fe7).toArray fs).run P w = .ok (decide (ns.drop o=ms.drop o)) w
 |[],ks,o,_,hn,hm,_,_=>by
  have h1:ns.drop o=[]:=Hb (by simp at hn;omega)
  have h2:ms.drop o=[]:=Hb (by simp at hm;omega)
  simp [Op.eqFields,h1,h2]
 |f::fs,[],o,h,_,_,_,_=>by simp [dv7] at h
 |f::fs,k::ks,o,h,hn,hm,kn,km=>by
  simp only [dv7,Hi,bne_iff_ne,beq_iff_eq] at h
  obtain ⟨⟨⟨h1,h2⟩,h3⟩,h4⟩:=h
  simp only [Fu] at hn hm
  have hno:o<ns.length:=by omega
  have hmo:o<ms.length:=by omega
  rw [Hp hno,Kc,Mw] at kn
  rw [Hp hmo,Kc,Mw] at km
  have ih:=cc3 d w ns ms fs ks (o+1) h4 (by omega) (by omega) kn.2 km.2
  have key:(ns.drop o=ms.drop o)↔(ns[o]=ms[o]/\ns.drop (o+1)=ms.drop (o+1)):=by rw [Hp hno,Hp hmo,Mw]
  have key2:decide (ns.drop o=ms.drop o)=decide (ns[o]=ms[o]/\ns.drop (o+1)=ms.drop (o+1)):=Fy.2 key
  rw [key2]
  have ha:(isAgg f.type).run P w = .ok false w:=by
   revert h2;split<;>intro h2
   ·rename_i hu;simp [isAgg,run_underlying hu]
   ·rename_i hu;simp [isAgg,run_underlying hu]
   cases h2
  have hp:∀(xs:List (Int ⊕ Bool)) (hk:o<xs.length),(part f.type (xs.map fe7).toArray f.offset).run P w = .ok (fe7 xs[o]) w:=λxs hk=>by
   have hcell:(fe7 xs[o]).cells = #[fe7 xs[o]]\/True:= .inr trivial
   simp [part,ha,h3,hk]
  have he:(Op.equalIn (d+1) f.type (fe7 ns[o]) (fe7 ms[o])).run P w = .ok (decide (ns[o]=ms[o])) w:=by
   have kn1:=kn.1
   have km1:=km.1
   generalize ns[o]=n at kn1
   generalize ms[o]=m at km1
   revert h2;split<;>intro h2
   ·rename_i hu
    subst h2
    cases n with
    |inl a=>cases m with
     |inl b=>show (Op.equalIn (d+1) f.type (e7 a) (e7 b)).run P w=_;rw [run_equalIn_int _ _ _ _ _ _ _ hu];congr 1;by_cases e:a=b<;>simp [e]
     |inr b=>cases km1
    |inr a=>cases kn1
   ·rename_i hu
    have hk:k=false:=by simpa using h2
    subst hk
    cases n with
    |inr a=>cases m with
     |inr b=>show (Op.equalIn (d+1) f.type (.bool a) (.bool b)).run P w=_;rw [run_equalIn_bool' w d f.type a b hu];cases a<;>cases b<;>rfl
     |inl b=>cases km1
    |inl a=>cases kn1
   cases h2
  simp only [Op.eqFields,By h1,Sem.run_bind,hp ns hno,hp ms hmo,Result.andThen_ok,he]
  by_cases hd:ns[o]=ms[o]
  ·simp [hd,ih]
  simp [hd]
theorem EqT.mix{α:Type}[Enc α][DecidableEq α]{T n:Nat}(vs:α->List (Int ⊕ Bool))(ks:List Bool)(M:∀x,Enc.enc x=(vs x).map fe7)(E:∀x y,vs x=vs y->x=y)(hlen:∀x,(vs x).length=n)(hk:∀x,(vs x).map gs3=ks)
  (ht:P.underlying T=some (.struct<|P.fieldsOf T)) (hp:P.stoodInHeld T=false) (hf:dv7 P (P.fieldsOf T).toList ks 0=true) (hn:(P.fieldsOf T).size=n) (hg:P.eqGuardType P.depth T=false):EqT P T α:=by
 refine ⟨λx y w=>?_,hg⟩
 rw [show (10000:Nat)=9999+1 from rfl,run_equalIn_struct w 9999 T _ _ ht hp,M,M,show (9999:Nat)=9998+1 from rfl,
  cc3 9998 w (vs x) (vs y) _ ks 0 hf (by rw [hlen,Hl,hn];omega) (by rw [hlen,Hl,hn];omega) (by rw [Ko];exact hk x) (by rw [Ko];exact hk y)]
 congr 1
 rw [Ko,Ko,Fy]
 exact ⟨E x y,λe=>by rw [e]⟩
end
end Go.Sl
namespace Go.Sl
open Go.Proofs
set_option maxRecDepth 4000
variable{xs:List Int}{ys:List Rg}{b:Nat}{den i lv n nd num:Int}{es:List Pt}
variable {κ:Ctx}{I:List Item}
attribute [local irreducible] W G V D A j0 Eff
theorem gt5:EqT prog 44 Rg:=EqT.mix (λp:Rg=>[.inl p.tm,.inl p.al,.inr p.on]) [true,true,false] (λ_=>rfl) (λx y h=>by cases x;cases y;simpa using h) (n:=3) (λ_=>rfl) (λ_=>rfl) kr kr kr kr kr
theorem fi8{xs:List Rg}(hl:xs.length=ys.length)(h:∀j:Nat,j<xs.length->e_ xs j=e_ ys j):xs=ys:=by
 refine Ma hl λi M E=>?_
 have:=h i M
 rwa [Cj xs i M,Cj ys i E] at this
theorem bj7{va vb:Value}{xs:List Rg}(hl:Sl κ I va xs)(hm:Sl κ I vb ys):er prog κ 24 [va,vb] I (λr J=>r = .bool (decide (xs=ys))/\I=J):=by
 refine Bm hl.le λad=>?_
 refine Bm hm.le λaa=>?_
 refine Ce2 Tryz.func24 C C<|Z ?_
 refine Am C (λc10=>Z ?_)<|λc10=>Z ?_
 ·have E:xs≠ys:=λe=>by subst e;omega
  exact Ak C C I Af ⟨by rw [E_ E],rfl⟩
 refine Dl (σ:=Nat) (λs=>[(5,e7 ((s:Nat):Int))]) (λ_=>[]) (λs=>(s<=xs.length)/\(∀j:Nat,j<s->e_ xs j=e_ ys j)) (λs=>xs.length - s) 0 ⟨om,(λj h=>by omega)⟩ ?_
 rintro k hp
 obtain ⟨hk,hn⟩:=hp
 refine Z ?_
 refine Am C (λab=>Z ?_)<|λab=>Z ?_
 ·refine A8 mixed (Cf I 9<|Z ?_)
  refine Dr 8 C (Dh (α:=Rg) (a:=(⟨(e_ xs k).tm,(e_ xs k).al,(e_ xs k).on⟩:Rg)) (b:=(⟨(e_ ys k).tm,(e_ ys k).al,(e_ ys k).on⟩:Rg)) gt5 C C)<|Z ?_
  refine Am C (λM=>Z ?_)<|λM=>Z ?_
  ·have E:xs≠ys:=λe=>by subst e;exact M rfl
   exact Ak C C I Af ⟨by rw [E_ E],rfl⟩
  exact Bh ((k+1)) ⟨om,(λj h=>by by_cases e:j=k;(· subst e;exact B_.1 M);(· exact hn j om))⟩
 have he:xs=ys:=fi8 om (λj hj=>hn j om)
 exact Ak C C I Af ⟨by rw [D_ he],rfl⟩
theorem bn1{lv:Value}{ls:List Int}(hl:∀q,Sl κ (R5 b lv q::I) lv ls)(h0:0<=i)   :
    er prog κ 21 [(pt b)] (e8 b [lv,e7 i] 125::I) (λr J=>∃y:Int×Int×Int×Int,((r = .agg #[e7 y.1,e7 y.2.1,e7 y.2.2.1]/\r7 y.1 y.2.1 y.2.2.1=0)/\0<=y.2.2.2)/\J=[]++R5 b lv y.2.2.2::I):=by
 refine Ce1 Tryz.func21 C C ?_
 refine Aj<|Ge1 (Ah ah8 C) λb1=>Z ?_
 refine G.e (Ac c_ C C<|F5 ta0 (Bs (hl _) Af) om om) ?_
 rintro _ _ ⟨_,_,⟨x2,i3,rfl,ah,ad,rfl⟩,rfl,rfl⟩
 refine Z ?_
 refine Am C (λc5=>?_)<|λc5=>Z ?_
 ·refine Aj (Gm C<|G.e (Ac c_ C C<|F5 ta0 (Bs (hl _) Af) om om) ?_)
  rintro _ _ ⟨_,_,⟨x4,M,rfl,ab,ai,rfl⟩,rfl,rfl⟩
  refine Z ?_
  refine Ge0 (ck1 ah8)<|Z ?_
  exact Cv C ah8 C mm C (e8 b [lv,e7 M] 125::I) Ar ⟨(2,1+x4,0,M),⟨⟨rfl,by show r7 2 (1+x4) (0)=0;unfold r7;rw [An om,An om]⟩,by show 0<=M;omega⟩,rfl⟩
 refine Am C (λc11=>?_)<|λc11=>Z ?_
 ·refine Aj (Gm C<|G.e (Ac c_ C C<|F5 ta0 (Bs (hl _) Af) om om) ?_)
  rintro _ _ ⟨_,_,⟨x6,E,rfl,aa,ae,rfl⟩,rfl,rfl⟩
  refine Z ?_
  refine Ge0 (ck1 ah8)<|Z ?_
  exact Cv C ah8 C mm C (e8 b [lv,e7 E] 125::I) Ar ⟨(3,0,x6,E),⟨⟨rfl,by show r7 3 0 (x6)=0;unfold r7;rw [An om,An om]⟩,by show 0<=E;omega⟩,rfl⟩
 refine Ge0 (ck1 ah8) ?_
 exact Aq<|Bq<|Cv C ah8 C mm C (e8 b [lv,e7 i3] 125::I) Ar ⟨(1,0,0,i3),⟨⟨rfl,by show r7 1 0 (0)=0;unfold r7;rw [An om,An om]⟩,by show 0<=i3;omega⟩,rfl⟩
theorem ci6{F:Item->List Item}{lv:Value}{E:List Int}(M:AtF I (R5 b lv i) F)(hl:∀q,Sl κ (F (R5 b lv q)) lv E)(h0:0<=i)   :
  er prog κ 21 [(pt b)] I λr J=>∃y:Int×Int×Int×Int,((r = .agg #[e7 y.1,e7 y.2.1,e7 y.2.2.1]/\r7 y.1 y.2.1 y.2.2.1=0)/\0<=y.2.2.2)/\J=[]++F (R5 b lv y.2.2.2):=
 Ea (Post:=λr (y:Int×Int×Int×Int)=>(r = .agg #[e7 y.1,e7 y.2.1,e7 y.2.2.1]/\r7 y.1 y.2.1 y.2.2.1=0)/\0<=y.2.2.2) (Z:=λy:Int×Int×Int×Int=>[]) (X:=λy:Int×Int×Int×Int=>R5 b lv y.2.2.2) M λJ _ hF=>bn1 (λq=>(hl q).fit (hF _)) h0  
def evA:Ev:=⟨1,4,0,1,1,0,1⟩
theorem gb8(h:xs.Pairwise (· < ·)):cm3 xs=xs:=aj3.uniq (bc3 xs) h λ_=>af6
theorem cb7:q9 2 3 0 [evA]=([ei evA],[evA]):=by
 show ab9 2 3 0 ([],[]) evA=_
 unfold ab9 Z9 dn4
 rw [By rfl,ak5<|by simp]
 decide
theorem cq2:V8 2 3 0 [evA]=[evA,cutAt 3 (ei evA)]:=by
 unfold V8;rw [cb7];decide
theorem do4:j5 2 3 0 [evA]=[0,4,7]:=by
 unfold j5 ay0
 rw [cb7]
 exact gb8 dc
theorem gk8:atG 2 3 0 [evA] 0=[]:=by unfold atG atK;rw [cq2];decide
theorem gk7:atG 2 3 0 [evA] 4=[⟨0,1⟩]:=by unfold atG atK;rw [cq2];decide
theorem gk6:atG 2 3 0 [evA] 7=[]:=by unfold atG atK;rw [cq2];decide
theorem dx5:G5 2 []=[0,0]:=by decide+kernel
theorem fz9:G5 2 [⟨0,1⟩]=[1,1]:=by decide+kernel
theorem fk6:G6 2 2 3 0 [evA]:=⟨⟨by decide,by decide,λj hj=>by
 obtain rfl:j=0:=by simp at hj;exact hj
 exact X2.1 dc,λj hj=>by
 obtain rfl:j=0:=by simp at hj;exact hj
 decide⟩,by decide⟩
theorem dh3{x:AlV}(h:x.kd=1):ao6 nd es x↔x.lv<=e_ (G5 nd es) x.no:=by unfold ao6;rw [By h]
theorem ga6{x:AlV}(h:x.kd=2):ao6 nd es x↔cp5 nd es x.num x.den:=by unfold ao6;rw [An om,By h]
theorem fn2{x:AlV}(h:x.kd=3):ao6 nd es x↔0<=ak2 (Z6 nd es x.xs) ⟨x.num,x.den⟩:=by unfold ao6;rw [An om,An om,By h]
theorem fn1{x:AlV}(h:x.kd=4):ao6 nd es x↔∃t∈z8 nd es,x.lv<=t:=by unfold ao6;rw [An om,An om,An om,By h]
theorem ga5{x:AlV}(h:x.kd=5):ao6 nd es x↔∀y∈x.xs,y∈bi4 nd es (e_ x.xs 0) x.lv:=by unfold ao6;rw [An om,An om,An om,An om]
theorem cx5{x:AlV}(h:¬ao6 nd es x):U4 nd es x=false:=by
 rw [Bool.eq_false_iff];exact λM=>h ((Z2 _ _ _).1 M)
theorem gt9{x:AlV}(M:G8 nd es)(hk:x.kd=3)(hn:x.num=0)(E:0<=x.den):U4 nd es x=true:=(Z2 _ _ _).2 ((fn2 hk).2 (by
 rw [dy4,hn]
 have h:=bh7 M x.xs
 have:=Nf h.n0 E
 show (0:Int)*_<=_
 rw [Mc];exact this))
theorem cq0(E:Option Addr)(M:Nat):bo7 2 2 3 0 [evA] [⟨3,0,0,E,M,[0,1],0,1⟩,⟨1,0,1,none,0,[],0,0⟩]=[⟨0,0,true⟩,⟨4,1,true⟩,⟨7,1,false⟩]:=by
 have h0:∀t,alH 2 2 3 0 [evA] [⟨3,0,0,E,M,[0,1],0,1⟩,⟨1,0,1,none,0,[],0,0⟩] t 0=true:=λt=>gt9 (fk6.graph t) rfl rfl (show (0:Int)<=1 by decide)
 have h1:∀t,alH 2 2 3 0 [evA] [⟨3,0,0,E,M,[0,1],0,1⟩,⟨1,0,1,none,0,[],0,0⟩] t 1=U4 2 (atG 2 3 0 [evA] t) ⟨1,0,1,none,0,[],0,0⟩:=λt=>rfl
 have ha:U4 2 (atG 2 3 0 [evA] 0) ⟨1,0,1,none,0,[],0,0⟩=false:=cx5 (by rw [dh3 rfl,gk8,dx5];decide)
 have hb:U4 2 (atG 2 3 0 [evA] 4) ⟨1,0,1,none,0,[],0,0⟩=true:=(Z2 _ _ _).2 (by rw [dh3 rfl,gk7,fz9];decide)
 have hc:U4 2 (atG 2 3 0 [evA] 7) ⟨1,0,1,none,0,[],0,0⟩=false:=cx5 (by rw [dh3 rfl,gk6,dx5];decide)
 unfold bo7
 rw [fg4,do4]
 simp only [gh1,fx6,Fu,F_,Lz,Nat.reduceAdd]
 have hr:List.range 2=[0,1]:=rfl
 simp [hr,Gw,h0,h1,ha,hb,hc]
theorem al1{no:Int}(E:0<=no/\no<n)(M:0<=lv/\lv<=64)(a:Option Addr)(c:Nat):bz9 n ⟨1,no,lv,a,c,[],0,0⟩ where
 kind:=by show 1<=(1:Int)/\(1:Int)<=5;decide
 k1:=λ_=>⟨E,M,rfl,rfl,rfl⟩
 k2:=λh=>absurd h (by show ¬(1:Int)=2;decide)
 k3:=λh=>absurd h (by show ¬(1:Int)=3;decide)
 k4:=λh=>absurd h (by show ¬(1:Int)=4;decide)
 k5:=λh=>absurd h (by show ¬(1:Int)=5;decide)
theorem al2(h:FrV ⟨num,den⟩)(a:Option Addr)(c:Nat):bz9 n ⟨2,0,0,a,c,[],num,den⟩ where
 kind:=by show 1<=(2:Int)/\(2:Int)<=5;decide
 k1:=λh=>absurd h (by show ¬(2:Int)=1;decide)
 k2:=λ_=>⟨rfl,rfl,rfl,h⟩
 k3:=λh=>absurd h (by show ¬(2:Int)=3;decide)
 k4:=λh=>absurd h (by show ¬(2:Int)=4;decide)
 k5:=λh=>absurd h (by show ¬(2:Int)=5;decide)
theorem al3'(E:0<xs.length/\xs.length<=64)(M:y7 xs n)(h:FrV ⟨num,den⟩)(a:Option Addr)(c:Nat):bz9 n ⟨3,0,0,a,c,xs,num,den⟩ where
 kind:=by show 1<=(3:Int)/\(3:Int)<=5;decide
 k1:=λh=>absurd h (by show ¬(3:Int)=1;decide)
 k2:=λh=>absurd h (by show ¬(3:Int)=2;decide)
 k3:=λ_=>⟨rfl,rfl,E,M,h⟩
 k4:=λh=>absurd h (by show ¬(3:Int)=4;decide)
 k5:=λh=>absurd h (by show ¬(3:Int)=5;decide)
theorem al4(M:0<=lv/\lv<=64)(a:Option Addr)(c:Nat):bz9 n ⟨4,0,lv,a,c,[],0,0⟩ where
 kind:=by show 1<=(4:Int)/\(4:Int)<=5;decide
 k1:=λh=>absurd h (by show ¬(4:Int)=1;decide)
 k2:=λh=>absurd h (by show ¬(4:Int)=2;decide)
 k3:=λh=>absurd h (by show ¬(4:Int)=3;decide)
 k4:=λ_=>⟨rfl,M,rfl,rfl,rfl⟩
 k5:=λh=>absurd h (by show ¬(4:Int)=5;decide)
theorem al5(h1:0<xs.length/\xs.length<=64)(E:y7 xs n)(M:0<=lv/\lv<=64)(a:Option Addr)(c:Nat):bz9 n ⟨5,0,lv,a,c,xs,0,0⟩ where
 kind:=by show 1<=(5:Int)/\(5:Int)<=5;decide
 k1:=λh=>absurd h (by show ¬(5:Int)=1;decide)
 k2:=λh=>absurd h (by show ¬(5:Int)=2;decide)
 k3:=λh=>absurd h (by show ¬(5:Int)=3;decide)
 k4:=λh=>absurd h (by show ¬(5:Int)=4;decide)
 k5:=λ_=>⟨rfl,M,h1,E,rfl,rfl⟩
end Go.Sl
