/- A part of the proofs of statements of this seat: contracts of functions, and the plain laws that they lean on. No conditions. -/
import Derived.Test.YtfkcohmipjhfcaaGreatDoorB10
set_option linter.unusedVariables false
set_option linter.unusedSimpArgs false
set_option linter.unusedSectionVars false
namespace Go.Sl
open Go.Proofs
set_option maxRecDepth 4000
variable{a:Option Addr}{c k:Nat}{xs:List Ev}{kd wd:Int}
variable {κ:Ctx}{I:List Item}
attribute [local irreducible] W G V D A j0 Eff
theorem cr4(hn:xs.length<=1000):er Tryz.prog κ 315 [.slice a xs.length c,e7 0,e7 ((xs.length:Nat):Int),.func (.func 230) #[] #[]] (vq 108 a c xs::I) (λr J=>r = .tuple #[]/\J=vc 108 (.slice a xs.length c) (G1 evC xs)::I):=by
 refine Bm (p:=0<xs.length->a≠none) (vc.isSome mm) λad=>?_
 refine Ce4 Tryz.func315 C C<|Z ?_
 refine Dl (σ:=Nat×(List Ev)) (λs=>[(8,e7 ((s.1:Nat):Int))]) (λs=>[vc 108 (.slice a xs.length c) (s.2)]) (λs=>(1<=s.1/\(s.1<=xs.length\/s.1=1))/\(s.2=(G1 evC<|xs.take s.1)++xs.drop s.1)) (λs=>xs.length - s.1) (1,xs) ⟨om,(by cases xs<;>rfl)⟩ ?_
 rintro ⟨i,ys⟩ hp
 dsimp only at hp ⊢
 obtain ⟨hi,hy⟩:=hp
 have ah:=λh:i<=xs.length=>ap9 evC h
 have ao:ys.length=xs.length:=by rw [hy,A_,Ge];rcases hi.2 with h|h;(· have:=ah h;omega);(· subst h;cases xs with |nil=>rfl|cons x t=>(have:=ah (by simp);simp at this ⊢; omega))
 refine Z ?_
 refine Am C (λaj=>Z ?_)<|λaj=>Z ?_
 ·refine Dl (σ:=Nat×(List Ev)) (λs=>[(9,e7 ((s.1:Nat):Int))]) (λs=>[vc 108 (.slice a xs.length c) (s.2)]) (λs=>(s.1<=i)/\(s.2=bz6 (G1 evC<|xs.take i) s.1 (e_ xs i)++xs.drop (i+1))/\(W0 evC (G1 evC<|xs.take i) (e_ xs i) s.1=W0 evC (G1 evC<|xs.take i) (e_ xs i) i)) (λs=>s.1) (i,ys) ⟨om,(by rw [hy];exact dg0 om),rfl⟩ ?_
  rintro ⟨j,zs⟩ hp
  dsimp only at hp ⊢
  obtain ⟨hj,E,ae⟩:=hp
  have an:=ah om
  have M:e_ zs j=(e_ xs i):=by rw [E];exact gb4 om
  have ab:0<j->e_ zs ((j:Int) - 1)=e_ (G1 evC<|xs.take i) ((j:Int) - 1):=λh=>by rw [E];exact fo2 h om
  have ap:zs.length=xs.length:=by rw [E,A_,Ge];unfold bz6;rw [A_,Fu,Fx,Ge];omega
  refine Ax<|Ax<|A8 mixed<|C1 17<|Z ?_
  refine Cw (d:=21) C (λai=>Z ?_)<|λai=>?_
  ·refine Ds1 14 (Sc0 C (C0 c_ C C C<|fq9 (e_ zs j)<|e_ zs<|(j:Int) - 1)<|Z ?_)
   refine Am C (λak=>Z ?_)<|λak=>Z ?_
   ·refine A8 mixed (Cf I 18<|Z ?_)
    refine Dr 8 C (j0.idxs Ev As j7 C C (ad om) om om)<|Z ?_
    refine Dr 12 C (j0.idxs Ev As j7 C C (ad om) om om)<|Cg (rs:=[9,13]) kr C C<|Dk ?_<|Du ?_
    ·refine Sr C (Cd (α:=Ev) (xs:=zs) j7 C A6 om oo) Ar ?_
     refine Ds1 13<|Sr C (Cd (α:=Ev) (xs:=zs) j7 C A6 om oo) Ar ?_
     refine Dr 14 C (j0.idxs Ev As j7 C C (ad om) om om)<|Ds1 15<|Se0 C (Cr (α:=Ev) (xs:=zs) (e:=108) (new:=⟨(e_ zs<|(j:Int) - 1).kd,(e_ zs<|(j:Int) - 1).tm,(e_ zs<|(j:Int) - 1).u,(e_ zs<|(j:Int) - 1).v,(e_ zs<|(j:Int) - 1).w,(e_ zs<|(j:Int) - 1).lb,(e_ zs<|(j:Int) - 1).sg⟩) j7 C C C om oo am) ?_
     refine Dr 16 C (j0.idxs Ev As j7 C C (ad om) om om)<|Ds1 17<|Se0 C (Cr (α:=Ev) (xs:=List.set zs ((j:Int)).toNat (⟨(e_ zs<|(j:Int) - 1).kd,(e_ zs<|(j:Int) - 1).tm,(e_ zs<|(j:Int) - 1).u,(e_ zs<|(j:Int) - 1).v,(e_ zs<|(j:Int) - 1).w,(e_ zs<|(j:Int) - 1).lb,(e_ zs<|(j:Int) - 1).sg⟩)) (e:=108) (new:=⟨(e_ zs j).kd,(e_ zs j).tm,(e_ zs j).u,(e_ zs j).v,(e_ zs j).w,(e_ zs j).lb,(e_ zs j).sg⟩) j7 C C C om oo am)<|Z ?_
     exact Bh ((j - 1),(List.set (List.set zs ((j:Int)).toNat (⟨(e_ zs<|(j:Int) - 1).kd,(e_ zs<|(j:Int) - 1).tm,(e_ zs<|(j:Int) - 1).u,(e_ zs<|(j:Int) - 1).v,(e_ zs<|(j:Int) - 1).w,(e_ zs<|(j:Int) - 1).lb,(e_ zs<|(j:Int) - 1).sg⟩)) ((j:Int) - 1).toNat (⟨(e_ zs j).kd,(e_ zs j).tm,(e_ zs j).u,(e_ zs j).v,(e_ zs j).w,(e_ zs j).lb,(e_ zs j).sg⟩)))<|by dsimp only;exact ⟨om,(by have aa:=cd8 (l:=(G1 evC<|xs.take i)) (r:=xs.drop (i+1)) (x:=(e_ xs i)) (show 0<j by omega) om;rw [←E,←M,←ab om] at aa;rw [M] at aa ⊢; rw [show (((j:Int)).toNat)=j by omega,show (((j:Int) - 1).toNat)=j - 1 by omega];exact aa),((bf6 om<|by rw [←ab om,←M];assumption).trans ae)⟩
    refine Sr C (Cd (α:=Ev) (xs:=zs) j7 C A6 om oo) Ar ?_
    refine Ds1 9<|Sr C (Cd (α:=Ev) (xs:=zs) j7 C A6 om oo) Ar ?_
    refine Dr 14 C (j0.idxs Ev As j7 C C (ad om) om om)<|Ds1 15<|Se0 C (Cr (α:=Ev) (xs:=zs) (e:=108) (new:=⟨(e_ zs<|(j:Int) - 1).kd,(e_ zs<|(j:Int) - 1).tm,(e_ zs<|(j:Int) - 1).u,(e_ zs<|(j:Int) - 1).v,(e_ zs<|(j:Int) - 1).w,(e_ zs<|(j:Int) - 1).lb,(e_ zs<|(j:Int) - 1).sg⟩) j7 C C C om oo am) ?_
    refine Dr 16 C (j0.idxs Ev As j7 C C (ad om) om om)<|Ds1 17<|Se0 C (Cr (α:=Ev) (xs:=List.set zs ((j:Int)).toNat (⟨(e_ zs<|(j:Int) - 1).kd,(e_ zs<|(j:Int) - 1).tm,(e_ zs<|(j:Int) - 1).u,(e_ zs<|(j:Int) - 1).v,(e_ zs<|(j:Int) - 1).w,(e_ zs<|(j:Int) - 1).lb,(e_ zs<|(j:Int) - 1).sg⟩)) (e:=108) (new:=⟨(e_ zs j).kd,(e_ zs j).tm,(e_ zs j).u,(e_ zs j).v,(e_ zs j).w,(e_ zs j).lb,(e_ zs j).sg⟩) j7 C C C om oo am)<|Z ?_
    exact Bh ((j - 1),(List.set (List.set zs ((j:Int)).toNat (⟨(e_ zs<|(j:Int) - 1).kd,(e_ zs<|(j:Int) - 1).tm,(e_ zs<|(j:Int) - 1).u,(e_ zs<|(j:Int) - 1).v,(e_ zs<|(j:Int) - 1).w,(e_ zs<|(j:Int) - 1).lb,(e_ zs<|(j:Int) - 1).sg⟩)) ((j:Int) - 1).toNat (⟨(e_ zs j).kd,(e_ zs j).tm,(e_ zs j).u,(e_ zs j).v,(e_ zs j).w,(e_ zs j).lb,(e_ zs j).sg⟩)))<|by dsimp only;exact ⟨om,(by have aa:=cd8 (l:=(G1 evC<|xs.take i)) (r:=xs.drop (i+1)) (x:=(e_ xs i)) (show 0<j by omega) om;rw [←E,←M,←ab om] at aa;rw [M] at aa ⊢; rw [show (((j:Int)).toNat)=j by omega,show (((j:Int) - 1).toNat)=j - 1 by omega];exact aa),((bf6 om<|by rw [←ab om,←M];assumption).trans ae)⟩
   exact Bh ((i+1),(zs))<|by dsimp only;exact ⟨om,(by rw [E];exact cd9 om ae<|by first|exact .inl om|(by_cases h0:j=0;(· exact .inl h0);(· exact .inr ⟨by omega,by rw [←M,←ab om];assumption⟩)))⟩
  refine Dpo 4 C<|Z ?_
  exact Bh ((i+1),(zs))<|by dsimp only;exact ⟨om,(by rw [E];exact cd9 om ae<|by first|exact .inl om|(by_cases h0:j=0;(· exact .inl h0);(· exact .inr ⟨by omega,by rw [←M,←ab om];assumption⟩)))⟩
 have hE:ys=G1 evC xs:=by rw [hy];rcases hi.2 with h|h;(· have e:i=xs.length:=om;rw [e,Hx,List.drop_length,Hq]);(· rw [Gb om,Hb om,Hq])
 exact V.gq6 C (vc 108 (.slice a xs.length c) (G1 evC xs)::I) (by rw [hE];exact Ar) ⟨rfl,rfl⟩
theorem dj6(hn:xs.length<=19):er Tryz.prog κ 280 [.slice a xs.length c,e7 ((xs.length:Nat):Int),.func (.func 230) #[] #[]] (vq 108 a c xs::I) (λr J=>r = .tuple #[]/\J=vc 108 (.slice a xs.length c) (G1 evC xs)::I):=by
 refine Ce3 Tryz.func280 C C ?_
 refine Aj<|Ga C<|Aq<|Aj<|Gm C<|Ga C<|Ga C<|Aq<|Ax<|A3<|B4 (σ:=Nat) (λs=>([(0,.slice a xs.length c),(1,e7 ((xs.length:Nat):Int)),(2,.func (.func 230) #[] #[]),(6,e7 20),(7,e7 0),(8,e7 20)]:Env)) (λs=>vq 108 a c xs::I) (λs=>True) (λs=>0) 0 (show True from trivial) (cx4<|Aa C<|Aa C A9) Ar ?_
 rintro z E
 refine Ax<|Aj<|Gm C<|Gm C<|Gr (E4 C C)<|Aq<|Am C (λc13=>?_)<|λc13=>?_
 ·omega
 refine B6<|Ao<|Ao<|A5<|Al<|Aj<|Gm C<|Gm C<|Gm C<|Gm C<|Gc1 (Ac c_ C C<|Cm (J:=vq 108 a c xs::I) Bi<|cr4 (xs:=xs) om) ?_
 refine Aq<|A0 (S4 0 1 2 6)<|A3<|B4 (σ:=Nat) (λs=>([(0,.slice a xs.length c),(1,e7 ((xs.length:Nat):Int)),(2,.func (.func 230) #[] #[]),(6,e7 20)]:Env)) (λs=>vc 108 (.slice a xs.length c) (G1 evC xs)::I) (λs=>True) (λs=>0) 0 (show True from trivial) (cx2<|Aa C<|Aa C A9) Ar ?_
 rintro z E
 refine Ax<|Aj<|Gm C<|Gm C<|Gr (Bp C C)<|Aq<|Am C (λM=>?_)<|λM=>?_
 ·omega
 exact B6<|Ao<|Ao<|A5<|V.gq6 C (vc 108 (.slice a xs.length c) (G1 evC xs)::I) Ar ⟨rfl,rfl⟩
theorem bm9(hn:xs.length<=19):er Tryz.prog κ 229 [.slice a xs.length c,.func (.func 230) #[] #[]] (vq 108 a c xs::I) (λr J=>r = .tuple #[]/\J=vc 108 (.slice a xs.length c) (G1 evC xs)::I):=by
 refine Ce2 Tryz.func229 C C<|Z ?_
 refine Gc1 (Ac c_ C C<|Cm (J:=vq 108 a c xs::I) Bi<|dj6 (xs:=xs) om) ?_
 exact Bl<|V.gq6 C (vc 108 (.slice a xs.length c) (G1 evC xs)::I) Ar ⟨rfl,rfl⟩
theorem bb2{xs:List Lk}(h:k<xs.length)(E:kd=2)(M:(e_ xs k).tm+wd<=1048576):L8 kd wd (xs.take (k+1))=L8 kd wd (xs.take k)++[cutAt wd (e_ xs k)]:=by
 rw [bp3 h,By (show cd7 kd wd (e_ xs k)=true from D_ ⟨E,M⟩)]
theorem ap8{xs:List Lk}(h:k<xs.length)(h1:¬kd=2\/¬(e_ xs k).tm+wd<=1048576):L8 kd wd (xs.take (k+1))=L8 kd wd (xs.take k):=by
 rw [bp3 h,An (λh=>by have M:=Gc h;rcases h1 with h1|h1<;>omega),Hq]
theorem gd2{nd mo:Int}{va:Value}{xs:List Lk}(hl:Sl κ I va xs)(hv:j8 nd xs=0)(hw:0<=wd/\wd<=1048576)(aj:xs.length<=19):er Tryz.prog κ 166 [.agg #[e7 nd,va],.agg #[e7 kd,e7 wd,e7 mo]] I (λr J=>∃a c,r = .slice a (G1 evC (L8 kd wd xs)).length c/\J=vq 108 a c (G1 evC (L8 kd wd xs))::I):=by
 refine Bm hl.le λae=>?_
 refine Ce2 Tryz.func166 C C ?_
 refine Aj<|Ge1 (Ay (cs:=[_,_]) C C C) λb1=>Ge1 (Ay (cs:=[_,_,_]) C C C) λb2=>Z ?_
 refine Dl (σ:=Nat×(Option Addr)×Nat×(List Ev)) (λs=>[(5,.slice s.2.1 s.2.2.2.length s.2.2.1),(12,e7 ((s.1:Nat):Int))]) (λs=>[vq 108 s.2.1 s.2.2.1 s.2.2.2]) (λs=>(s.1<=xs.length)/\(s.2.2.2=L8 kd wd (xs.take s.1))) (λs=>xs.length - s.1) (0,none,0,[]) ⟨om,rfl⟩ (hI:=(Bb _ _)) ?_
 rintro ⟨k,a,c,out⟩ hp
 dsimp only at hp ⊢
 obtain ⟨hk,ho⟩:=hp
 have ah:out.length<=k:=by rw [ho];have h1:=ad5 kd wd (xs.take k);rw [Fx] at h1;omega
 refine Z ?_
 refine Am C (λc13=>Z ?_)<|λc13=>Z ?_
 ·refine Ge1 (Ah p7 C) λb3=>Ge0 (Dp p7) ?_
  have ak:=au1 hv (k:Int) om om
  refine Z ?_
  refine Au (d:=24) C (λM=>Z ?_)<|λM=>Z ?_
  ·refine Am C (λaa=>Z ?_) (λaa=>Z ?_)
   ·refine Ge1 (Bt (α:=Ev) (cs:=[e7 2,e7<|((e_ xs k).tm)+wd,e7<|(e_ xs k).u,e7<|(e_ xs k).v,e7 0,e7 0,e7 0]) (xs:=[⟨2,((e_ xs k).tm)+wd,(e_ xs k).u,(e_ xs k).v,0,0,0⟩]) As j7 C C dc dc C kr C C) λai=>?_
    refine Ge2 (Bv (α:=Ev) (e:=108) (xs:=out) (ys:=([⟨2,((e_ xs k).tm)+wd,(e_ xs k).u,(e_ xs k).v,0,0,0⟩]:List Ev)) As j7 C C C mm A6 lcn dc C<|λ_ _=>am) λad ab=>Z ?_
    exact Bh ((k+1),(ad),(ab),(out++([⟨2,((e_ xs k).tm)+wd,(e_ xs k).u,(e_ xs k).v,0,0,0⟩]:List Ev)))<|by dsimp only;exact ⟨om,(by first|(rw [bb2 om M asm,←ho];rfl)|(rw [ap8 om (.inl M),←ho])|(rw [ap8 om (.inr asm),←ho]))⟩
   exact Bh ((k+1),(a),(c),(out))<|by dsimp only;exact ⟨om,(by first|(rw [bb2 om M asm,←ho];rfl)|(rw [ap8 om (.inl M),←ho])|(rw [ap8 om (.inr asm),←ho]))⟩
  exact Bh ((k+1),(a),(c),(out))<|by dsimp only;exact ⟨om,(by first|(rw [bb2 om M asm,←ho];rfl)|(rw [ap8 om (.inl M),←ho])|(rw [ap8 om (.inr asm),←ho]))⟩
 refine Gc1 (Ac c_ C C<|Cm (J:=vq 108 a c out::e8 b2 [e7 kd,e7 wd,e7 mo] 31::e8 b1 [e7 nd,va] 111::I) Bi<|bm9 (xs:=out) om)<|Z ?_
 have hE:out=L8 kd wd xs:=by rw [ho,Gb om]
 have E:(G1 evC out).length=out.length:=(E6 evC out).length_eq
 exact Ak C C (vq 108 a c (G1 evC<|L8 kd wd xs)::I) (by unfold vq;rw [←hE,E];exact Bi) ⟨a,c,by rw [←hE,E],rfl⟩
end Go.Sl
namespace Go.Sl
open Go.RowKit (Below)
variable{c:Operand}{id:Nat}{M:List Value}{rest:List Oper}
section
variable {P:Program}{κ:Ctx}{N:Frm}{Q:Exit->Act->World->Prop}{L:Env}{I J:List Item}{ops:Array Oper}{l m:Nat}
theorem WR.cond{x y:Code}{t:Bool}(hc:ep L c=some (.bool t))(h1:t=true->WR P κ N l m x Q L I)(E:t=false->WR P κ N l m y Q L I):WR P κ N l m (.cond c x y) Q L I:=
 λa w M hs=>wpIn_cond_split (M.eval hc) (λh=>h1 h a w M hs) (λh=>E h a w M hs)
theorem WR.ite{x y:Code}{p:Prop}[Decidable p](E:ep L c=some (.bool (decide p)))(h1:p->WR P κ N l m x Q L I)(M:¬p->WR P κ N l m y Q L I):WR P κ N l m (.cond c x y) Q L I:=
 WR.cond E (λh=>h1<|Gc h) (λh=>M<|Gt h)
theorem WR.skip(h:V κ N Q .normal L I):WR P κ N l m .skip Q L I:=λa w M hs=>wpIn_skip (h a w M hs)
theorem WR.exit(h:V κ N Q (.exit id) L I):WR P κ N l m (.exit id) Q L I:=λa w M hs=>wpIn_exit (h a w M hs)
def ah1(P:Program)(κ:Ctx)(l:Nat)(args:List Value)(I:List Item)(Post:Bool->List Item->Prop):Prop:=∀w,Sep κ w I->YieldAt Fence.wide 0 P l args.toArray w λe w'=>∃b,e = .returned (.bool b)/\∃J,Post b J/\Sep κ w' J
theorem V.gg8{r:Loop}{Post:Bool->List Item->Prop}(J:List Item)(hf:Fit κ I (bu5 l {r with state:= .busy}::J))(hp:r.state = .ready/\r.pending=none)(E:Post true (bu5 l r::J)):V κ N (roundPost P l λe w'=>∃b,e = .returned (.bool b)/\∃K,Post b K/\Sep κ w' K) .normal L I:=λa w ha hs=>by
 have M:=hf w hs
 have hl:=(M.ok _ C_).1
 refine ⟨_,_,run_endRound none hl,true,rfl,?_⟩
 have e:({({r with state:= .busy}:Loop) with state:=if (none:Option Code).isNone then .ready else .done,pending:=none}:Loop)=r:=by
  obtain ⟨h1,h2⟩:=hp
  cases r;simp_all
 rw [e]
 exact ⟨_,E,M.bo9⟩
theorem V.gg7{r:Loop}{Post:Bool->List Item->Prop}(J:List Item)(E:Fit κ I (bu5 l {r with state:= .busy}::J))(hP:Post false (bu5 l {r with state:= .done,pending:=some (.exit id)}::J)):V κ N (roundPost P l λe w'=>∃b,e = .returned (.bool b)/\∃K,Post b K/\Sep κ w' K) (.exit id) L I:=λa w ha hs=>by
 have M:=E w hs
 have hl:=(M.ok _ C_).1
 exact ⟨_,_,run_endRound (some<|.exit id) hl,false,rfl,_,hP,M.bo9⟩
theorem ah1.mk{r:Loop}{Post:Bool->List Item->Prop}{L₁:Env}(ab:M.length=r.params.size)(ad:r.state = .ready/\r.pending=none){body:Code}(hb:r.body=body)
  (E:∀(w:World) (K:Act->World->Prop),(∀a₁,Ag N a₁ L₁->K a₁ w)->r.assign.wpIn (Fence.wide.inRound l) 0 P (Exit.then K<|λ_ _ _=>False) {tmps:=(r.params.zip M.toArray).foldl (λt (p,v)=>t.setIfInBounds p v) r.tmps,defers:=[]} w)
  (aa:WR P κ N l 0 body (roundPost P l λe w'=>∃b,e = .returned (.bool b)/\∃K,Post b K/\Sep κ w' K) L₁ (bu5 l {r with state:= .busy}::I)) :
  ah1 P κ l M (bu5 l r::I) Post:=λw hs=>by
 have hl:=(hs.ok _ C_).1
 refine ⟨_,_,_,_,run_yield hl<|by simpa using ab,roundIn_of_wpIn trivial ?_⟩
 refine E w _ λa₁ ha=>⟨_,run_beginRound hl ad.1,?_⟩
 have h:=aa a₁ _ ha hs.bo9
 rw [←hb] at h
 exact h
theorem fk9(tm:Array Value)(p q:Tmp)(v u:Value):(#[p,q].zip [v,u].toArray).foldl (λt (p,v)=>t.setIfInBounds p v) tm=(tm.setIfInBounds p v).setIfInBounds q u:=by simp
theorem GY.gf0{rest:List Oper}{Post:Bool->List Item->Prop}{l dd:Nat}{x:Operand}{xs:List Operand}{vs:List Value}{M:Array TypeId}{ty:TypeId}{ps:String}{af:Array Edge}{gd:Option (Nat×Bool)}
  (hw:p8 N ops ⟨some dd,.call {callee:= .value x,args:=xs.toArray,argTypes:=M},ty,ps,af,gd⟩ L) (ab:ep L x=some (.func (.yield l) #[] #[])) (hx:Q5 L xs=some vs) (hN:Nat.blt dd N.n=true) (hy:ah1 P κ l vs I Post)
  (h:∀b J,Post b J->GY P κ N ops Q rest ((dd,.bool b)::L) J):GY P κ N ops Q (⟨some dd,.call {callee:= .value x,args:=xs.toArray,argTypes:=M},ty,ps,af,gd⟩::rest) L I:=λa w ha hs=>by
 obtain ⟨fn,E,assign,body,aa,hR⟩:=hy w hs
 have he:(execOp a.eval ⟨some dd,.call {callee:= .value x,args:=xs.toArray,argTypes:=M},ty,ps,af,gd⟩).run P w = .ok (.round l fn E assign body) w:=by
  simp only [execOp,resolve,ha.eval ab,Deferred.ofValue,invoke,Sem.run_bind,Sem.run_pure,Result.andThen_ok,Ke,ha.Q5 hx]
  simpa using aa
 unfold wpListIn
 rw [By (hw a ha)]
 refine ⟨λ_ _=>trivial,?_⟩
 simp only [Fence.wide_round,Oper.semAt_none,he,Oper.uponIn]
 refine ⟨λhd=>by simp [Fence.wide] at hd,hR.mono λe w' ⟨b,h1,J,hP,h2⟩=>?_⟩
 subst h1
 exact h b J hP _ w' (ha.put dd hN _) h2
theorem GY.pass{o:Oper}{d:Nat}(hw:y4 N ops o L)(hd:o.dst=some d)(E:Nat.blt d N.n=true)(h:GY P κ N ops Q rest ((d,undef)::L) I):GY P κ N ops Q (o::rest) L I:=
 λa w M hs=>by
  unfold wpListIn
  rw [An (by simp [hw a M])]
  rw [hd]
  exact ⟨λ_ _=>trivial,h _ w (M.put d E _) hs⟩
theorem ah1.fit{l:Nat}{Post:Bool->List Item->Prop}(E:Fit κ I J)(h:ah1 P κ l M J Post):ah1 P κ l M I Post:=λw hs=>h w (E w hs)
theorem bf7{A L T:List Item}:(A++(L++T)).Perm (L++(A++T)):=by
 rw [←H1,←H1];exact List.perm_append_comm.append_right T
theorem W.fg8{g:Operand}{ps:Array Tmp}{assign body:Code}{gf:FuncId}{lb:List Value}(hg:ep L g=some (.func (.func gf) #[] lb.toArray))(hc:T8 P gf=true)
  (h:∀(D l:Nat) (r:Loop),(r.state = .ready/\r.pending=none)->r.params=ps->r.assign=assign->r.body=body->Ag ⟨N.n,[]⟩ {tmps:=r.tmps,defers:=[]} L->
   er P κ gf (.func (.yield l) #[] #[]::lb) (bu5 l r::cf4 D::I) λv K=>
    (∃J,K=bu5 l r::cf4 D::J/\V κ ⟨N.n,de8 D::N.ds⟩ Q .normal L (cf4 D::J))\/
    ∃c J,K=bu5 l {r with state:= .done,pending:=some c}::cf4 D::J/\W P κ ⟨N.n,de8 D::N.ds⟩ c Q L (cf4 D::J)) :
  W P κ N (.rangeFunc g ps assign body) Q L I:=λa w ha hs=>by
 refine (wpIn_wide (n:=0)).1 (wpIn_rangeFunc ?_)
 intro fn _
 obtain ⟨r,hr⟩:∃r:Loop,r={state:= .ready,pending:=none,fn,tmps:=a.tmps,params:=ps,assign,body,defers:=w.heap.size}:=⟨_,rfl⟩
 obtain ⟨W1,hW1⟩:∃W1,(w.alloc (.deferred (some []))).alloc (.loop r)=W1:=⟨_,rfl⟩
 have hD1:(w.alloc (.deferred (some []))).heap[w.heap.size]? = some (.deferred (some [])):=World.alloc_heap_new w _
 have s1:Sep κ (w.alloc (.deferred (some []))) (cf4 w.heap.size::I):=hs.new (hs.alloc _) hD1 λk hk=>by obtain rfl:k=_:=hk;exact ⟨Gk _,by simp⟩
 have hL1:W1.heap[w.heap.size+1]? = some (.loop r):=by
  rw [←hW1];have:=World.alloc_heap_new (w.alloc (.deferred (some []))) (.loop r);rwa [World.size_alloc] at this
 have s2:Sep κ W1 (bu5 (w.heap.size+1) r::cf4 w.heap.size::I):=by
  rw [←hW1]
  exact s1.new (s1.alloc _) (by rw [hW1];exact hL1) λk hk=>by obtain rfl:k=_:=hk;exact ⟨by simp,by simp⟩
 have hcall:=h w.heap.size (w.heap.size+1) r (by rw [hr];exact ⟨rfl,rfl⟩) (by rw [hr]) (by rw [hr]) (by rw [hr]) ⟨rfl,by rw [hr];exact ha.size,by rw [hr];exact ha.get⟩ W1 s2
 refine ⟨w.heap.size+1,[de8 w.heap.size],W1,{target:= .fn (.func gf) lb.toArray,args:= #[.func (.yield (w.heap.size+1)) #[] #[]]},W1,gf, #[.func (.yield (w.heap.size+1)) #[] #[]]++lb.toArray,W1,?_,?_,λ_ _=>trivial,?_,λhd=>by simp [Fence.wide] at hd,?_⟩
 ·rw [←hW1,hr];exact run_enterLoop_outer _ _ _ _ _
 ·simp only [resolve,ha.eval hg]
  simp [go_sem]
 ·simp [invoke,go_sem,ai6 hc]
 refine callsIn_wide.2 ?_
 have e1:(#[.func (.yield (w.heap.size+1)) #[] #[]]++lb.toArray:Array Value)=(Value.func (.yield (w.heap.size+1)) #[] #[]::lb).toArray:=by simp
 rw [e1]
 have hag:∀(N':Frm) (t:Array Value),True->True:=λ_ _ _=>trivial
 refine hcall.mono λe w' ⟨v,K,he,hK,hs'⟩=>?_
 subst he
 rcases hK with ⟨J,hK,hV⟩|⟨c,J,hK,hW⟩
 ·subst hK
  have hl:=(hs'.ok _ C_).1
  have hst:r.state ≠ .busy:=by rw [hr];exact λh=>by cases h
  refine ⟨_,_,run_endLoop hl hst,?_⟩
  have hp:r.pending=none:=by rw [hr]
  rw [hp]
  exact hV _ _ ⟨by show [de8 w.heap.size]++a.defers=_;rw [ha.defers];rfl,ha.size,ha.get⟩ hs'.bo9.tail
 subst hK
 have hl:=(hs'.ok _ C_).1
 refine ⟨_,_,run_endLoop hl (λh=>by cases h),?_⟩
 exact wpIn_wide.2 (hW _ _ ⟨by show [de8 w.heap.size]++a.defers=_;rw [ha.defers];rfl,ha.size,ha.get⟩ hs'.bo9.tail)
end
end Go.Sl
/- Searching what is left of a network: the plain law of the search by layers. No Go. -/
namespace Go.Sl
section
variable (n:Net)(f out:List Int)
def un:Nat:=out.count (-1)
end
section
variable {n:Net}{f out todo:List Int}{x:Int}{k1 k2:Nat}
theorem ft3{y i:Int}(hy:0<=y/\y<out.length)(h:e_ out y = -1)(hi:i ≠ -1):un (out.set y.toNat i)+1=un out:=by
 unfold un
 have hl:y.toNat<out.length:=by omega
 have E:out[y.toNat] = -1:=by rw [ax3 hy.1 hy.2] at h;exact h
 rw [List.count_set hl]
 have M:0<out.count (-1):=Mg.2 (E▸Mq hl)
 have e1:(out[y.toNat]==(-1:Int))=true:=by simp [E]
 have e2:(i==(-1:Int))=false:=by simpa using hi
 rw [e1,e2]
 simp only [Ll,Mh,Me]
 omega
end
end Go.Sl
/- Flows and cuts: the plain law. No Go. -/
namespace Go.Sl
variable{f:List Int}
def ar5(n:Net)(f:List Int)(v:Int):Int:=
 L6 n.j9.length λk=>(if (e_ n.j9 k).frm=v then e_ f k else 0) - (if (e_ n.j9 k).dst=v then e_ f k else 0)
structure ab2 (n:Net) (f:List Int):Prop where
 len:f.length=n.j9.length
 cap:∀k:Nat,k<n.j9.length->0<=e_ f k/\e_ f k<=(e_ n.j9 k).cap
 cons:∀v,0<=v->v<n.nodes->v≠n.source->v≠n.sink->ar5 n f v=0
def cz7(n:Net)(S:Int->Bool):Int:=L6 n.j9.length λk=>if S (e_ n.j9 k).frm && !S (e_ n.j9 k).dst then (e_ n.j9 k).cap else 0
theorem br9{n:Net}(M:n.Ok){k:Nat}(E:k<n.j9.length):(0<=(e_ n.j9 k).frm/\(e_ n.j9 k).frm<n.nodes)/\(0<=(e_ n.j9 k).dst/\(e_ n.j9 k).dst<n.nodes)/\(e_ n.j9 k).frm≠(e_ n.j9 k).dst/\0<=(e_ n.j9 k).cap/\(e_ n.j9 k).cap<=1099511627776:=
 M.arc _ (B3 om om)
theorem ct7{m:Nat}{v:Int}(M:0<=v)(E:v<m)(S:Int->Bool)(c:Int):L6 m (λj=>if S (j:Int) then (if v=(j:Int) then c else 0) else 0)=if S v then c else 0:=by
 have e:v=((v.toNat:Nat):Int):=by omega
 rw [Db m (h:=λj=>if j=v.toNat then (if S v then c else 0) else 0) λj hj=>?_]
 ·exact be0 om _
 by_cases hj:j=v.toNat
 ·subst hj;rw [By rfl,←e,By rfl]
 rw [An hj,An (show ¬v=(j:Int) by omega)];split<;>rfl
theorem ca2{n:Net}(hok:n.Ok)(hf:ab2 n f)(S:Int->Bool)(hs:S n.source=true)(ht:S n.sink=false) :
  ar5 n f n.source=L6 n.j9.length λk=>(if S (e_ n.j9 k).frm && !S (e_ n.j9 k).dst then e_ f k else 0) - (if S (e_ n.j9 k).dst && !S (e_ n.j9 k).frm then e_ f k else 0):=by
 have hsrc:=hok.src
 -- the sum of what goes out of the nodes of S
 have h1:L6 n.nodes.toNat (λv=>if S (v:Int) then ar5 n f (v:Int) else 0)=ar5 n f n.source:=by
  rw [Db n.nodes.toNat (h:=λj=>if j=n.source.toNat then ar5 n f n.source else 0) λj hj=>?_]
  ·exact be0 om _
  by_cases hj':j=n.source.toNat
  ·subst hj'
   rw [By rfl,show ((n.source.toNat:Nat):Int)=n.source from by omega,hs];simp
  rw [An hj']
  by_cases hS:S (j:Int)=true
  ·rw [By hS]
   refine hf.cons _ om om (λe=>hj' om) λe=>?_
   rw [e,ht] at hS;cases hS
  rw [An hS]
 rw [←h1]
 have h2:L6 n.nodes.toNat (λv=>if S (v:Int) then ar5 n f (v:Int) else 0) =
   L6 n.nodes.toNat (λv=>L6 n.j9.length λk=>(if S (v:Int) then (if (e_ n.j9 k).frm=(v:Int) then e_ f k else 0) else 0) - (if S (v:Int) then (if (e_ n.j9 k).dst=(v:Int) then e_ f k else 0) else 0)):=
  Db _ λv _=>by
   by_cases hS:S (v:Int)=true
   ·rw [By hS];unfold ar5
    exact Db _ λk _=>by rw [By hS,By hS]
   rw [An hS]
   exact (Fq _ λk _=>by rw [An hS,An hS];rfl).symm
 rw [h2,do6]
 refine Db _ λk hk=>?_
 have ha:=br9 hok hk
 rw [ct6,ct7 ha.1.1 om,ct7 ha.2.1.1 om]
 cases S (e_ n.j9 k).frm<;>cases S (e_ n.j9 k).dst<;>simp
theorem cs8{n:Net}(M:n.Ok)(E:ab2 n f)(S:Int->Bool)(hs:S n.source=true)(ht:S n.sink=false):ar5 n f n.source<=cz7 n S:=by
 rw [ca2 M E S hs ht]
 refine bd9 _ λk hk=>?_
 have hc:=E.cap k hk
 cases S (e_ n.j9 k).frm<;>cases S (e_ n.j9 k).dst<;>simp<;>omega
def gc3(n:Net)(f:List Int)(S:Int->Bool):Prop:=∀k:Nat,k<n.j9.length->
 (S (e_ n.j9 k).frm=true->e_ f k<(e_ n.j9 k).cap->S (e_ n.j9 k).dst=true)/\
 (S (e_ n.j9 k).dst=true->0<e_ f k->S (e_ n.j9 k).frm=true)
theorem bo2{n:Net}(ab:n.Ok)(E:ab2 n f){S:Int->Bool}(hs:S n.source=true)(ht:S n.sink=false):ar5 n f n.source=cz7 n S↔gc3 n f S:=by
 rw [ca2 ab E S hs ht]
 have aa:∀k,k<n.j9.length->((if S (e_ n.j9 k).frm && !S (e_ n.j9 k).dst then e_ f k else 0) - (if S (e_ n.j9 k).dst && !S (e_ n.j9 k).frm then e_ f k else 0))<=(if S (e_ n.j9 k).frm && !S (e_ n.j9 k).dst then (e_ n.j9 k).cap else 0):=λk M=>by
  have hc:=E.cap k M
  cases S (e_ n.j9 k).frm<;>cases S (e_ n.j9 k).dst<;>simp<;>omega
 constructor
 ·intro h k M
  have:=ae7 _ aa h k M
  have hc:=E.cap k M
  revert this
  cases h1:S (e_ n.j9 k).frm<;>cases h2:S (e_ n.j9 k).dst<;>simp<;>omega
 intro h
 refine Db _ λk M=>?_
 have hc:=E.cap k M
 have:=h k M
 revert this
 cases h1:S (e_ n.j9 k).frm<;>cases h2:S (e_ n.j9 k).dst<;>simp<;>omega
end Go.Sl
/- Sending along a way: the plain law. No Go. -/
namespace Go.Sl
variable{i:Int}
section
variable {n:Net}{f out:List Int}{rk:Int->Nat}
theorem cw3{k:Nat}(hk:k<n.j9.length){f1:List Int}(hl:f1.length=n.j9.length)(c v:Int) :
  ar5 n (f1.set k c) v=ar5 n f1 v+(if (e_ n.j9 k).frm=v then c - e_ f1 k else 0) - (if (e_ n.j9 k).dst=v then c - e_ f1 k else 0):=by
 have M:∀j:Nat,e_ (f1.set k c) j=if k=j then c else e_ f1 j:=λj=>aq7 f1 k j c om
 unfold ar5
 rw [ff1 hk (g:=λk=>(if (e_ n.j9 k).frm=v then e_ f1 k else 0) - (if (e_ n.j9 k).dst=v then e_ f1 k else 0)) (λj hj E=>by simp only [M j,An (λe=>E e.symm:¬k=j)])]
 simp only [M k,Ll]
 split<;>split<;>omega
theorem dz6{p:Int->Prop}{m:Nat}(h:∀k:Nat,k<m->p (k:Int))(M:0<=i)(hi:i<m):p i:=by
 have:=h i.toNat om
 rwa [show ((i.toNat:Nat):Int)=i from by omega] at this
theorem fv0(M:n.Ok)(E:0<=i)(hi:i<n.j9.length):(0<=(e_ n.j9 i).frm/\(e_ n.j9 i).frm<n.nodes)/\(0<=(e_ n.j9 i).dst/\(e_ n.j9 i).dst<n.nodes)/\(e_ n.j9 i).frm≠(e_ n.j9 i).dst/\0<=(e_ n.j9 i).cap/\(e_ n.j9 i).cap<=1099511627776:=M.arc _ (B3 E hi)
theorem gm4(M:∀k:Nat,k<n.j9.length->0<=e_ f k/\e_ f k<=(e_ n.j9 k).cap)(E:0<=i)(hi:i<n.j9.length):0<=e_ f i/\e_ f i<=(e_ n.j9 i).cap:=dz6 (p:=λi=>0<=e_ f i/\e_ f i<=(e_ n.j9 i).cap) M E hi
end
end Go.Sl
/- The least and the greatest side of a cut: the plain law. No Go. -/
namespace Go.Sl
variable{N:Nat}
def ap3(N:Nat)(R:Int->Bool):List Int:=((List.range N).map λk=>((k:Nat):Int)).filter R
theorem av4(N:Nat)(R:Int->Bool):ap3 (N+1) R=ap3 N R++if R (N:Int) then [(N:Int)] else []:=by
 unfold ap3
 rw [Kj,Jb,Hc]
 congr 1
 by_cases h:R (N:Int)<;>simp [h]
theorem cb8{R:Int->Bool}(h:R (N:Int)=true):ap3 (N+1) R=ap3 N R++[(N:Int)]:=by rw [av4,By h]
theorem cu1{R:Int->Bool}(h:R (N:Int)=false):ap3 (N+1) R=ap3 N R:=by rw [av4,h];simp
theorem be8(N:Nat)(R:Int->Bool):(ap3 N R).length<=N:=by
 have:=Gz R ((List.range N).map λk=>((k:Nat):Int))
 simpa [ap3] using this
theorem cd1{R:Int->Bool}{z:Int}:z∈ap3 N R↔(0<=z/\z<N)/\R z=true:=by
 unfold ap3
 rw [G_,Ha]
 constructor
 ·rintro ⟨⟨k,M,rfl⟩,h⟩
  exact ⟨⟨by omega,by have:=Ht.1 M;omega⟩,h⟩
 rintro ⟨⟨E,h1⟩,h⟩
 exact ⟨⟨z.toNat,Ht.2 om,by omega⟩,h⟩
structure dm0 (n:Net) (f:List Int) (T:Int->Bool):Prop where
 src:T n.source=true
 snk:T n.sink=false
 shut:gc3 n f T
 bm7:∀S:Int->Bool,gc3 n f S->S n.sink=false->∀z,0<=z->z<n.nodes->S z=true->T z=true
section
variable {n:Net}{f g:List Int}{R R':Int->Bool}
theorem dm0.value(M:n.Ok)(E:ab2 n f)(h:dm0 n f R):ar5 n f n.source=cz7 n R:=(bo2 M E h.src h.snk).2 h.shut
end
theorem bx6{n:Net}(M:n.Ok)(S:Int->Bool):0<=cz7 n S/\cz7 n S<=18014398509481984:=by
 have h:∀m:Nat,m<=n.j9.length->0<=L6 m (λk=>if S (e_ n.j9 k).frm && !S (e_ n.j9 k).dst then (e_ n.j9 k).cap else 0)/\L6 m (λk=>if S (e_ n.j9 k).frm && !S (e_ n.j9 k).dst then (e_ n.j9 k).cap else 0)<=(m:Int)*1099511627776:=λm=>by
  induction m with
  |zero=>intro _;simp [L6]
  |succ m ih=>
   intro E
   have:=ih om
   have:=br9 M (k:=m) om
   simp only [L6]
   split<;>omega
 have:=h n.j9.length (Gk _)
 have:=M.lim
 unfold cz7
 omega
theorem bh3(n:Net)(E:n.Ok):ab2 n (List.replicate n.j9.length (0:Int))/\ar5 n (List.replicate n.j9.length (0:Int)) n.source=0:=by
 have h0:∀k:Nat,k<n.j9.length->e_ (List.replicate n.j9.length (0:Int)) (k:Int)=0:=λk M=>ak4 _ _ _ om om
 have hn:∀v,ar5 n (List.replicate n.j9.length (0:Int)) v=0:=λv=>Fq _ λk M=>by rw [h0 k M];simp
 exact ⟨⟨by simp,λk M=>by rw [h0 k M];have:=br9 E M;omega,λv _ _ _ _=>hn v⟩,hn _⟩
end Go.Sl
/- Searching back from the sink: the plain law. No Go. -/
namespace Go.Sl
end Go.Sl
/- What a check of a cx9 accepts: the plain law. No Go. -/
namespace Go.Sl
section
variable {n:Net}{f side:List Int}{val:Int}
theorem be7(N:Nat)(R:Int->Bool):y7 (ap3 N R) (N:Int):=by
 induction N with
 |zero=>exact ax7 _
 |succ N ih=>
  rw [av4]
  split
  ·have:=aq9 ih om
   exact this
  rw [Hq];exact ag6 ih om
end
end Go.Sl
/- Networks with one arc more, and turned round; fx4 between the least and the greatest side: the plain law. No Go. -/
namespace Go.Sl
end Go.Sl
namespace Go.Sl
open Go.Proofs
set_option maxRecDepth 4000
theorem aj3:cj3 (λa b:Int=>a<b):=⟨λa h=>by omega,λa b c E M=>by omega,λa b=>by omega⟩
theorem dq2(x:Int):∀l,ar4 l x=cx1 (λa b:Int=>a<b) l x
 |[]=>rfl
 |y::ys=>by simp only [ar4,cx1,dq2 x ys]
theorem gi5(l:List Int):ofL l=dp1 (λa b:Int=>a<b) l:=by
 unfold ofL dp1
 congr 1
 funext acc x
 exact dq2 x acc
theorem Y7(l:List Int):(ofL l).Pairwise (λa b:Int=>a<b):=by rw [gi5];exact aj3.dp1 l
theorem ae1{l:List Int}{N:Int}:y7 l N↔(∀x∈l,0<=x/\x<N)/\l.Pairwise (λa b:Int=>a<b):=by
 constructor
 ·intro h
  refine ⟨λx E=>di5 h E,bv0 aj3.tr λi hi=>?_⟩
  have:=(h (i+1) hi).2 om
  rwa [show ((i+1:Nat):Int) - 1=(i:Int) from by omega] at this
 rintro ⟨h1,M⟩ j hj
 refine ⟨h1 _<|B3 om om,λh0=>?_⟩
 have:=(aa8 l).1 M (j - 1) j om hj
 rwa [show ((j - 1:Nat):Int)=(j:Int) - 1 from by omega] at this
end Go.Sl
/- Cuts of graphs: how many edges a set separates; least cuts; which nodes few edges cannot separate. No Go. No conditions. -/
namespace Go.Sl
theorem ca7{α:Type}[Inhabited α](g:α->Int)(l:List α):L6 l.length (λk=>g (e_ l k))=(l.map g).sum:=by
 have M:∀m,m<=l.length->L6 m (λk=>g<|e_ l k)=((l.take m).map g).sum:=λm=>by
  induction m with
  |zero=>intro _;simp [L6]
  |succ m ih=>
   intro E
   rw [Cn l m om,Jb,List.sum_append,←ih om]
   simp [L6]
 have:=M l.length (Gk _)
 rwa [Hx] at this
end Go.Sl
/- The greatest set for which the edges inside, less a price for each node, are most, by a least cut. The plain law. No Go. No conditions. -/
namespace Go.Sl
variable{D N nd:Int}{es:List Pt}
def P8(N:Int)(v:Nat):List Arc:=[⟨0,2+(v:Int),0⟩,⟨2+(v:Int),1,N⟩]
def N8(nd D:Int)(es:List Pt)(i:Nat):List Arc:=[⟨0,2+nd+(i:Int),D⟩,⟨2+nd+(i:Int),2+(e_ es i).u,D⟩,⟨2+nd+(i:Int),2+(e_ es i).v,D⟩]
def s9(nd N D:Int)(es:List Pt):List Arc:=(List.range nd.toNat).flatMap (P8 N)++(List.range es.length).flatMap (N8 nd D es)
def y3(nd N D:Int)(es:List Pt):Net:=⟨2+nd+(es.length:Int),0,1,s9 nd N D es⟩
theorem V5{α:Type}(f:Nat->List α)(c:Nat)(h:∀i,(f i).length=c)(n:Nat):((List.range n).flatMap f).length=n*c:=by
 induction n with
 |zero=>simp
 |succ n ih=>rw [Kj,Md,A_,ih,Nat.succ_mul];simp [h]
theorem aa7(nd N D:Int)(es:List Pt):(s9 nd N D es).length=nd.toNat*2+es.length*3:=by
 unfold s9
 rw [A_,V5 _ 2<|λ_=>rfl,V5 _ 3<|λ_=>rfl]
theorem as4{a:Arc}:a∈s9 nd N D es↔(∃v:Nat,(v:Int)<nd/\a∈P8 N v)\/∃i:Nat,i<es.length/\a∈N8 nd D es i:=by
 unfold s9
 rw [Gu,L_,L_]
 constructor
 ·rintro (⟨v,E,M⟩|⟨i,E,M⟩)
  ·exact .inl ⟨v,by have:=Ht.1 E;omega,M⟩
  exact .inr ⟨i,Ht.1 E,M⟩
 rintro (⟨v,E,M⟩|⟨i,E,M⟩)
 ·exact .inl ⟨v,Ht.2 om,M⟩
 exact .inr ⟨i,Ht.2 E,M⟩
theorem aq5(M:G8 nd es)(hm:es.length<=2016)(hN:0<=N/\N<=1099511627776)(hD:0<=D/\D<=1099511627776):(y3 nd N D es).Ok:=by
 have hr:=M.rng
 have hl:=aa7 nd N D es
 refine ⟨⟨by show 2+nd+(es.length:Int)<=4200;omega,by show (s9 nd N D es).length<=16384;omega⟩,by show 2<=2+nd+(es.length:Int);omega,⟨Hn _,by show (0:Int)<2+nd+(es.length:Int);omega⟩,⟨by show (0:Int)<=1;decide,by show (1:Int)<2+nd+(es.length:Int);omega⟩,by show (0:Int)≠1;decide,λa E=>?_⟩
 show (0<=a.frm/\a.frm<2+nd+(es.length:Int))/\(0<=a.dst/\a.dst<2+nd+(es.length:Int))/\a.frm≠a.dst/\0<=a.cap/\a.cap<=1099511627776
 rcases as4.1 E with ⟨v,hv,h⟩|⟨i,hi,h⟩
 ·simp only [P8,Gh,Hy,Kx] at h
  rcases h with rfl|rfl<;>simp only<;>omega
 have he:=M.ad7 _ (B3 (i:=(i:Int)) om om)
 simp only [N8,Gh,Hy,Kx] at h
 rcases h with rfl|rfl|rfl<;>simp only<;>omega
def aj9(nd N D:Int)(es:List Pt)(W:Int->Bool):Int:=L6 nd.toNat (λv=>if W (v:Int) then N else 0)+L6 es.length λi=>if W (e_ es i).u&&W (e_ es i).v then 0 else D
def gu0(S:Int->Bool)(a:Arc):Int:=if S a.frm && !S a.dst then a.cap else 0
theorem ct4{α:Type}(φ:α->Int)(f:Nat->List α)(n:Nat):(((List.range n).flatMap f).map φ).sum=L6 n λi=>((f i).map φ).sum:=by
 induction n with
 |zero=>rfl
 |succ n ih=>rw [Kj,Md,Jb,List.sum_append,ih];simp [L6]
theorem cf8(nd N D:Int)(es:List Pt)(S:Int->Bool)(M:S 0=true)(E:S 1=false):cz7 (y3 nd N D es) S =
  L6 nd.toNat (λv=>if S (2+(v:Int)) then N else 0)+L6 es.length λi=>(if S (2+nd+(i:Int)) then (if S (2+(e_ es i).u) then 0 else D)+(if S (2+(e_ es i).v) then 0 else D) else D):=by
 have e:cz7 (y3 nd N D es) S=((s9 nd N D es).map (gu0 S)).sum:=by
  rw [←ca7];rfl
 rw [e]
 unfold s9
 rw [Jb,List.sum_append,ct4,ct4]
 congr 1
 ·refine Db _ λv _=>?_
  simp [P8,gu0,M,E]
 refine Db _ λi _=>?_
 simp only [N8,gu0,Kc,My,List.sum_cons,List.sum_nil,M]
 cases S (2+nd+(i:Int))<;>cases S (2+(e_ es i).u)<;>cases S (2+(e_ es i).v)<;>simp
def as7(nd:Int)(es:List Pt)(W:Int->Bool)(z:Int):Bool:=
 decide (z=0)||(decide (2<=z/\z<2+nd)&&W (z - 2))||(decide (2+nd<=z/\z<2+nd+(es.length:Int))&&W (e_ es<|z - 2 - nd).u&&W (e_ es<|z - 2 - nd).v)
theorem am6{W:Int->Bool}{v:Int}(E:0<=v)(M:v<nd):as7 nd es W (2+v)=W v:=by
 unfold as7
 rw [E_ (show ¬2+v=0 by omega),D_ (show 2<=2+v/\2+v<2+nd by omega),E_ (show ¬(2+nd<=2+v/\2+v<2+nd+(es.length:Int)) by omega),show 2+v - 2=v by omega]
 simp
theorem df5{W:Int->Bool}{i:Nat}(M:0<=nd)(hi:i<es.length):as7 nd es W (2+nd+(i:Int))=(W (e_ es i).u&&W (e_ es i).v):=by
 unfold as7
 rw [E_ (show ¬2+nd+(i:Int)=0 by omega),E_ (show ¬(2<=2+nd+(i:Int)/\2+nd+(i:Int)<2+nd) by omega),D_ (show 2+nd<=2+nd+(i:Int)/\2+nd+(i:Int)<2+nd+(es.length:Int) by omega),show 2+nd+(i:Int) - 2 - nd=(i:Int) by omega]
 simp
theorem fn0(hG:G8 nd es)(W:Int->Bool):as7 nd es W 0=true/\as7 nd es W 1=false/\cz7 (y3 nd N D es) (as7 nd es W)=aj9 nd N D es W:=by
 have hr:=hG.rng
 have E:as7 nd es W 0=true:=by unfold as7;simp
 have M:as7 nd es W 1=false:=by
  unfold as7
  rw [E_ (show ¬(1:Int)=0 by decide),E_ (show ¬(2<=(1:Int)/\(1:Int)<2+nd) by omega),E_ (show ¬(2+nd<=(1:Int)/\(1:Int)<2+nd+(es.length:Int)) by omega)];simp
 refine ⟨E,M,?_⟩
 rw [cf8 _ _ _ _ _ E M]
 unfold aj9
 congr 1
 ·refine Db _ λv hv=>?_
  rw [am6 om om]
 refine Db _ λi hi=>?_
 have he:=hG.ad7 _ (B3 (i:=(i:Int)) om om)
 rw [df5 hr.1 hi,am6 om om,am6 om om]
 cases W (e_ es i).u<;>cases W (e_ es i).v<;>simp
theorem bh9(hD:0<=D)(S:Int->Bool)(M:S 0=true)(E:S 1=false):aj9 nd N D es (λv=>S (2+v))<=cz7 (y3 nd N D es) S:=by
 rw [cf8 _ _ _ _ _ M E]
 unfold aj9
 dsimp only
 have:=bd9 es.length (g:=λi=>if S (2+(e_ es i).u)&&S (2+(e_ es i).v) then 0 else D)
  (h:=λi=>(if S (2+nd+(i:Int)) then (if S (2+(e_ es i).u) then 0 else D)+(if S (2+(e_ es i).v) then 0 else D) else D)) λi hi=>by
  cases S (2+nd+(i:Int))<;>cases S (2+(e_ es i).u)<;>cases S (2+(e_ es i).v)<;>simp<;>omega
 omega
theorem bp8(hG:G8 nd es)(hm:es.length<=2016)(hN:0<=N/\N<=1099511627776)(hD:0<=D/\D<=1099511627776){f:List Int}{T:Int->Bool}(hf:ab2 (y3 nd N D es) f)(E:dm0 (y3 nd N D es) f T)(W:Int->Bool) :
  aj9 nd N D es (λv=>T<|2+v)<=aj9 nd N D es W/\(aj9 nd N D es W<=aj9 nd N D es (λv=>T<|2+v)->∀v,0<=v->v<nd->W v=true->T (2+v)=true):=by
 have M:=aq5 hG hm hN hD
 obtain ⟨l0,l1,l2⟩:=fn0 (N:=N) (D:=D) hG W
 have h1:=bh9 (nd:=nd) (N:=N) (es:=es) hD.1 T E.src E.snk
 have h2:cz7 (y3 nd N D es) T<=cz7 (y3 nd N D es) (as7 nd es W):=by
  rw [←E.value M hf];exact cs8 M hf _ l0 l1
 rw [l2] at h2
 refine ⟨by omega,λaa v v0 v1 hv=>?_⟩
 have h3:ar5 (y3 nd N D es) f (y3 nd N D es).source=cz7 (y3 nd N D es) (as7 nd es W):=by
  rw [E.value M hf,l2];omega
 have h4:=(bo2 M hf (S:=as7 nd es W) l0 l1).1 h3
 exact E.bm7 _ h4 l1 (2+v) om (by show 2+v<2+nd+(es.length:Int);omega)<|by rw [am6 v0 v1];exact hv
end Go.Sl
/- The densest set by prices that grow. The plain law. No Go. No conditions. -/
namespace Go.Sl
variable{B S W:BitVec 64}{es:List Pt}{D N nd:Int}
def J7(W:BitVec 64)(es:List Pt):Int:=((es.filter λe=>W.getLsbD e.u.toNat&&W.getLsbD e.v.toNat).length:Int)
def ah5(nd:Int)(W:BitVec 64):Prop:=∀x∈em W,x<nd
def J5(W:BitVec 64):Int:=((em W).length:Int)
theorem aj4(W:BitVec 64)(es:List Pt):0<=J7 W es/\J7 W es<=es.length:=by
 unfold J7
 have:=Gz (λe:Pt=>W.getLsbD e.u.toNat&&W.getLsbD e.v.toNat) es
 omega
theorem ce1{k:Nat}(h:k<es.length):J7 W (es.take (k+1))=J7 W (es.take k)+if W.getLsbD (e_ es k).u.toNat&&W.getLsbD (e_ es k).v.toNat then 1 else 0:=by
 unfold J7
 rw [Cn es k h,Hc,A_]
 cases hc:(W.getLsbD (e_ es k).u.toNat&&W.getLsbD (e_ es k).v.toNat)<;>simp [Gw,hc]
theorem fw7(D:Int)(W:BitVec 64)(es:List Pt):(es.map λe=>if W.getLsbD e.u.toNat&&W.getLsbD e.v.toNat then (0:Int) else D).sum=D*((es.length:Int) - J7 W es):=by
 induction es with
 |nil=>simp [J7]
 |cons e es ih=>
  rw [Kc,List.sum_cons,ih]
  unfold J7
  rw [Gw]
  cases hc:(W.getLsbD e.u.toNat&&W.getLsbD e.v.toNat)
  ·rw [An dc,An dc,Fu]
   rw [show (((es.length+1:Nat):Int) - ((es.filter λe=>W.getLsbD e.u.toNat&&W.getLsbD e.v.toNat).length:Int))=((es.length:Int) - ((es.filter λe=>W.getLsbD e.u.toNat&&W.getLsbD e.v.toNat).length:Int))+1 by omega,Lx]
   omega
  rw [By rfl,By rfl,Fu,Fu]
  rw [show (((es.length+1:Nat):Int) - (((es.filter λe=>W.getLsbD e.u.toNat&&W.getLsbD e.v.toNat).length+1:Nat):Int))=((es.length:Int) - ((es.filter λe=>W.getLsbD e.u.toNat&&W.getLsbD e.v.toNat).length:Int)) by omega]
  omega
theorem fw8(N:Int)(p:Nat->Bool)(n:Nat):L6 n (λv=>if p v then N else 0)=N*(((List.range n).filter p).length:Int):=by
 induction n with
 |zero=>simp [L6]
 |succ n ih=>
  rw [Kj,Hc,A_]
  simp only [L6]
  rw [ih]
  cases hc:p n
  ·simp [Gw,hc]
  rw [By rfl,show ([n].filter p).length=1 by simp [Gw,hc],Int.natCast_add,Lx]
  simp
theorem co1(h:ah5 nd W)(E:0<=nd)(h1:nd<=64):ah7 W=(List.range nd.toNat).filter λi=>W.getLsbD i:=by
 unfold ah7
 have hs:List.range 64=List.range nd.toNat++(List.range<|64 - nd.toNat).map (nd.toNat + ·):=by
  rw [←List.range_add];congr 1;omega
 rw [hs,Hc]
 have:(((List.range<|64 - nd.toNat).map (nd.toNat + ·)).filter λi=>W.getLsbD i)=[]:=by
  rw [Jc]
  intro i hi M
  obtain ⟨j,_,rfl⟩:=Ha.1 hi
  have:=h ((nd.toNat+j:Nat):Int) (s4.2 ⟨by omega,by rw [Hu];exact M⟩)
  omega
 rw [this,Hq]
theorem at7(h0:0<=nd)(h1:nd<=64)(h:ah5 nd W):aj9 nd N D es (λv=>W.getLsbD v.toNat)=N*J5 W+D*((es.length:Int) - J7 W es):=by
 unfold aj9
 have E:=fw8 N (λi=>W.getLsbD i) nd.toNat
 rw [←co1 h h0 h1] at E
 have M:=ca7 (λe:Pt=>if W.getLsbD e.u.toNat&&W.getLsbD e.v.toNat then (0:Int) else D) es
 rw [fw7] at M
 have e3:J5 W=((ah7 W).length:Int):=by unfold J5 em;rw [Gi]
 rw [e3,←E,←M]
 congr 1
theorem bq7{W W':Int->Bool}(E:G8 nd es)(h:∀v,0<=v->v<nd->W v=W' v):aj9 nd N D es W=aj9 nd N D es W':=by
 unfold aj9
 congr 1
 ·exact Db _ λv hv=>by rw [h _ om om]
 refine Db _ λi hi=>?_
 have M:=E.ad7 _ (B3 (i:=(i:Int)) om om)
 rw [h _ M.1 om,h _ om M.2.2]
structure ch8 (nd N D:Int) (es:List Pt) (B:BitVec 64):Prop where
 sub:ah5 nd B
 max:∀W,ah5 nd W->D*J7 W es - N*J5 W<=D*J7 B es - N*J5 B
 bm7:∀W,ah5 nd W->D*J7 B es - N*J5 B<=D*J7 W es - N*J5 W->∀x∈em W,x∈em B
theorem co8(hG:G8 nd es)(hm:es.length<=2016)(hN:0<=N/\N<=1099511627776)(hD:0<=D/\D<=1099511627776){f:List Int}{T:Int->Bool}(hf:ab2 (y3 nd N D es) f)(hT:dm0 (y3 nd N D es) f T)
  {B:BitVec 64} (hB:∀v,v∈em B↔(0<=v/\v<nd)/\T (2+v)=true):ch8 nd N D es B:=by
 have E:=hG.rng
 have hs:ah5 nd B:=λx hx=>((hB x).1 hx).1.2
 have hc:aj9 nd N D es (λv=>T<|2+v)=aj9 nd N D es (λv=>B.getLsbD v.toNat):=bq7 hG λv h0 h1=>by
  rw [Lr]
  have:=hB v
  rw [Cz] at this
  constructor
  ·intro h;exact (this.2 ⟨⟨h0,h1⟩,h⟩).2
  intro h;exact (this.1 ⟨h0,h⟩).2
 rw [at7 E.1 E.2 hs] at hc
 have M:∀x y:Int,D*((es.length:Int) - x)=D*es.length - D*x:=λx y=>Int.mul_sub _ _ _
 refine ⟨hs,λW hW=>?_,λW hW ab x hx=>?_⟩
 ·have h:=(bp8 hG hm hN hD hf hT λv=>W.getLsbD v.toNat).1
  rw [hc,at7 E.1 E.2 hW,M _ 0,M _ 0] at h
  omega
 have h:=(bp8 hG hm hN hD hf hT λv=>W.getLsbD v.toNat).2
 rw [hc,at7 E.1 E.2 hW,M _ 0,M _ 0] at h
 have aa:=s4.1 hx
 have h0:=aa.1
 have h1:=hW x hx
 exact (hB x).2 ⟨⟨h0,h1⟩,h om x h0 h1 aa.2⟩
structure fd5 (nd N D:Int) (es:List Pt) (B:BitVec 64):Prop where
 sub:ah5 nd B
 ne:B≠0#64
 eq:D*J7 B es=N*J5 B
 max:∀W,ah5 nd W->D*J7 W es<=N*J5 W
 bm7:∀W,ah5 nd W->D*J7 W es=N*J5 W->∀x∈em W,x∈em B
theorem an6(h:W≠0#64):1<=J5 W/\J5 W<=64:=by
 obtain ⟨u,M⟩:=V3.1 h
 have:=Jz M
 have:=Ee W
 unfold J5;omega
theorem ce0(es:List Pt):J7 0#64 es=0:=by
 unfold J7;simp
theorem cg2:J5 0#64=0:=by unfold J5;rw [C5];rfl
theorem dq3{nd:Int}(h:0<D*J7 B es - N*J5 B):B≠0#64:=λe=>by
 subst e
 rw [ce0,cg2] at h;omega
theorem ch8.done(h:ch8 nd N D es B)(hS:ah5 nd S)(E:S≠0#64)(hp:D*J7 S es=N*J5 S)(aa:J7 B es*D<=N*J5 B):fd5 nd N D es B:=by
 have h1:=h.max S hS
 have e:J7 B es*D=D*J7 B es:=Hz _ _
 have hz:D*J7 B es=N*J5 B:=by omega
 refine ⟨h.sub,λe0=>?_,hz,λW M=>by have:=h.max W M;omega,λW M hw=>h.bm7 W M om⟩
 obtain ⟨u,hu⟩:=V3.1 E
 have:=h.bm7 S hS om u hu
 rw [e0,C5] at this;cases this
def dg7(es:List Pt)(W:BitVec 64):Nat:=(4096*(J7 W es).toNat) / (J5 W).toNat
theorem dx0{a b s t:Nat}(hs:1<=s/\s<=64)(E:1<=t/\t<=64)(h:a*t<b*s):4096*a / s<4096*b / t:=by
 have h1:(4096*a / s)*s<=4096*a:=Nat.div_mul_le_self _ _
 refine Nat.lt_of_succ_le<|(Nat.le_div_iff_mul_le om).2 ?_
 generalize 4096*a / s=q at h1
 have M:(q+1)*s<=4096*a+s:=by rw [Jk];omega
 have h3:((q+1)*s)*t<=(4096*a+s)*t:=Hs _ M
 have h4:(4096*a+s)*t=4096*(a*t)+s*t:=by rw [Jk,Mt]
 have h5:s*t<=64*64:=Nat.mul_le_mul hs.2 E.2
 have h6:((q+1)*t)*s<=(4096*b)*s:=by
  have e1:((q+1)*t)*s=((q+1)*s)*t:=by rw [Mt,Kh t s,←Mt]
  have e2:(4096*b)*s=4096*(b*s):=Mt _ _ _
  rw [e1,e2];omega
 exact Nat.le_of_mul_le_mul_right h6 om
theorem dg6{nd:Int}(M:S≠0#64)(hD:1<=D)(hp:D*J7 S es=N*J5 S)(hlt:¬J7 B es*D<=N*J5 B):dg7 es S<dg7 es B:=by
 have hB:B≠0#64:=dq3 (nd:=nd) (N:=N) (D:=D) (es:=es) (by have e:J7 B es*D=D*J7 B es:=Hz _ _;omega)
 have s1:=an6 M
 have s2:=an6 hB
 have i1:=aj4 S es
 have E:=aj4 B es
 unfold dg7
 refine dx0 om om ?_
 have hz:J7 S es*J5 B<J7 B es*J5 S:=by
  refine Int.lt_of_mul_lt_mul_left (a:=D) ?_ om
  rw [←Hk,hp,←Hk,Hz D<|J7 B es,Hk N,Hz (J5 S)<|J5 B,←Hk N]
  exact M_ om om
 have c1:((J7 S es).toNat:Int)=J7 S es:=Lm i1.1
 have c2:((J7 B es).toNat:Int)=J7 B es:=Lm E.1
 have c3:((J5 S).toNat:Int)=J5 S:=Lm om
 have c4:((J5 B).toNat:Int)=J5 B:=Lm om
 have:(((J7 S es).toNat*(J5 B).toNat:Nat):Int)<(((J7 B es).toNat*(J5 S).toNat:Nat):Int):=by
  rw [Lq,Lq,c1,c2,c3,c4];exact hz
 exact Int.ofNat_lt.1 this
theorem cz4(M:es.length<=2016)(h:W≠0#64):dg7 es W<=8257536:=by
 have i1:=aj4 W es
 have E:=an6 h
 unfold dg7
 refine Jt (Nat.div_le_self _ _) ?_
 omega
theorem fd5.reach(hD:1<=D)(h:fd5 nd N D es B){a b:Int}(hb:1<=b):a*D<=N*b↔∃W,ah5 nd W/\W≠0#64/\a*J5 W<=b*J7 W es:=by
 have s1:=an6 h.ne
 have e:=h.eq
 constructor
 ·intro M
  refine ⟨B,h.sub,h.ne,Ng (a:=D) ?_ om⟩
  rw [Hk b,Hz (J7 B es) D,e,show a*J5 B*D=a*D*J5 B by rw [Hk,Hz<|J5 B,←Hk],show b*(N*J5 B)=N*b*J5 B by rw [←Hk,Hz b N]]
  exact Kn M om
 rintro ⟨W,hW,E,M⟩
 have s2:=an6 E
 have hm:=h.max W hW
 refine Ng (a:=J5 W) ?_ om
 have h1:a*J5 W*D<=b*J7 W es*D:=Kn M om
 have h2:b*(D*J7 W es)<=b*(N*J5 W):=Mv hm om
 rw [show a*D*J5 W=a*J5 W*D by rw [Hk,Hz D,←Hk],show N*b*J5 W=b*(N*J5 W) by rw [Hz N b,Hk]]
 rw [show b*J7 W es*D=b*(D*J7 W es) by rw [Hk,Hz<|J7 W es]] at h1
 omega
end Go.Sl
/- Fewer edges lie inside a set than it has nodes, times all nodes. The plain law. No Go. No conditions. -/
namespace Go.Sl
theorem dw8{nd:Int}{es:List Pt}(h1:1<=nd):∃W,ah5 nd W/\W≠0#64/\0*J5 W<=1*J7 W es:=by
 refine ⟨1#64 <<< (0:Int).toNat,λx E=>?_,?_,?_⟩
 ·have M:=(aj0 (m:=0#64) (u:=x) (k:=0) dc dc).1 (by simpa using E)
  rcases M with h|h
  ·rw [C5] at h;cases h
  omega
 ·decide
 have:=(aj4 (1#64 <<< (0:Int).toNat) es).1
 omega
end Go.Sl
