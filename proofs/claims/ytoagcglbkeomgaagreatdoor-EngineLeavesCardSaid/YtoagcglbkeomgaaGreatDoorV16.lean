/- A part of the proofs of statements of this seat: contracts of functions, and the plain laws that they lean on. No conditions. -/
import Derived.Test.YtoagcglbkeomgaaGreatDoorV15
set_option linter.unusedVariables false
set_option linter.unusedSimpArgs false
set_option linter.unusedSectionVars false
open List (replicate)
set_option maxHeartbeats 4000000
namespace Go.Sl
open Go.Proofs
set_option maxRecDepth 4000
variable{A:List Item}{ad:Option Addr}{c k:Nat}{xs:List Int}{i j nd:Int}{x:Item}{es:List Pt}
variable {κ:Ctx}{I:List Item}
attribute [local irreducible] W G V D A j8 Eff
theorem X8{κ:Ctx}{B:List Item}(h:B.Sublist A:=by repeat (first|exact Jo _|exact Gk _ _|apply List.Sublist.cons_cons|apply List.Sublist.cons)):Fit κ A B:=C4 h
theorem At.ow{I:List Item}:∀{rs:List (G1 Int)} {i:Int},0<=i->i<rs.length->
  At (ap4 3 rs++I) (vc 3 (.slice (e_ rs i).a (e_ rs i).xs.length (e_ rs i).c) (e_ rs i).xs) (vc 3 (.slice ad xs.length c) xs) (ap4 3 (List.set rs i.toNat ⟨ad,c,xs⟩)++I):=fun {rs} {i} M h=>by
 obtain ⟨k,rfl⟩:∃k:Nat,i=(k:Int):=⟨i.toNat,by omega⟩
 rw [Lw]
 clear M
 induction rs generalizing k with
 |nil=>simp at h;omega
 |cons r rs ih=>
  cases k with
  |zero=>exact At.head _ _ _
  |succ k=>exact At.tail _ (ih k<|by simp at h;omega)
theorem fj1{I:List Item}{rs:List (G1 Int)}(M:0<=i)(h:i<rs.length):vk 3 (e_ rs i).a (e_ rs i).c (e_ rs i).xs∈ap4 3 rs++I:=(At.ow (ad:=none) (c:=0) (xs:=[]) M h).mem
theorem fn3{rs:List (G1 Int)}(M:0<=i)(h:i<rs.length):Sl κ (ap4 3 rs++I) (.slice (e_ rs i).a (e_ rs i).xs.length (e_ rs i).c) (e_ rs i).xs:=Cz (fj1 M h)
theorem At.ow2{I:List Item}{rs:List (G1 Int)}{x:G1 Int}(h0:0<=i)(h:i<rs.length)(j0:0<=j)(hj:j<rs.length)(M:j≠i) :
  At (ap4 3 (List.set rs j.toNat x)++I) (vc 3 (.slice (e_ rs i).a (e_ rs i).xs.length (e_ rs i).c) (e_ rs i).xs) (vc 3 (.slice ad xs.length c) xs) (ap4 3 (List.set (List.set rs j.toNat x) i.toNat ⟨ad,c,xs⟩)++I):=by
 have h1:=At.ow (I:=I) (ad:=ad) (c:=c) (xs:=xs) (rs:=List.set rs j.toNat x) (i:=i) h0 (by rw [Fo];exact h)
 rw [Ei _ _ _ _ j0 h0 hj,An M] at h1
 exact h1
theorem Fit.fy9:∀(rs:List (G1 Int)),(∀r∈rs,r=default)->Fit κ I (ap4 3 rs++I)
 |[],_=>Dd _
 |r::rs,h=>by
  refine A9 (Fit.fy9 rs λx M=>h x<|C_ _ M) ?_
  show Fit κ _ (vk 3 r.a r.c r.xs::_)
  rw [h r A_]
  exact B7 _ _
theorem Atp{I I':List Item}{y:Item}(h:At I x y I':=by repeat (first|exact At.ow asm asm|exact At.ow2 asm asm asm asm asm|apply At.tail)):At I x y I':=h
theorem fn4{I:List Item}{rs:List (G1 Int)}{x:G1 Int}(h0:0<=i)(h:i<rs.length)(j0:0<=j)(hj:j<rs.length)(M:j≠i):vk 3 (e_ rs i).a (e_ rs i).c (e_ rs i).xs∈ap4 3 (List.set rs j.toNat x)++I:=(At.ow2 (ad:=none) (c:=0) (xs:=[]) h0 h j0 hj M).mem
theorem Mmp{I:List Item}(h:x∈I:=by repeat (first|exact fj1 asm asm|exact fn4 asm asm asm asm asm|apply C_)):x∈I:=h
structure bk1 (nd:Int) (es:List Pt) (rs:List (G1 Int)):Prop where
 len:(rs.length:Int)=nd
 row:∀i:Int,0<=i->i<nd->(e_ rs i).xs=nbL es i
theorem bk1.start(h:0<=nd):bk1 nd [] (replicate nd.toNat (default:G1 Int)):=⟨by rw [Fy];omega,λi M h1=>by rw [cp5 _ _ _ M om];rfl⟩
theorem bk1.push{rs:List (G1 Int)}(h:bk1 nd (es.take k) rs)(hk:k<es.length)(he:0<=(e_ es k).u/\(e_ es k).u<(e_ es k).v/\(e_ es k).v<nd)(a b:Option Addr)(c d:Nat) :
  bk1 nd (es.take<|k+1) (List.set (List.set rs (e_ es k).u.toNat ⟨a,c,(e_ rs (e_ es k).u).xs++[(e_ es k).v]⟩) (e_ es k).v.toNat ⟨b,d,(e_ rs (e_ es k).v).xs++[(e_ es k).u]⟩):=by
 have hl:=h.len
 refine ⟨by rw [Fo,Fo];exact hl,λi M h1=>?_⟩
 rw [ar5 hk,Ei _ _ _ _ om M<|by rw [Fo];omega,Ei _ _ _ _ om M om]
 by_cases e1:(e_ es k).v=i
 ·rw [B_ e1,An om,B_ e1]
  show (e_ rs (e_ es k).v).xs++_=_
  rw [e1,h.row i M h1];rfl
 rw [An e1,An e1]
 by_cases e2:(e_ es k).u=i
 ·rw [B_ e2,B_ e2]
  show (e_ rs (e_ es k).u).xs++_=_
  rw [e2,h.row i M h1,Gq]
 rw [An e2,An e2,h.row i M h1];simp
theorem eu.gi2{κ:Ctx}{I:List Item}{rs:List (G1 Int)}{x:G1 Int}(hx:e_ rs i=x)(h0:0<=i)(h:i<rs.length)(ab:x.xs.length<4611686018427387904):eu Tryz.prog κ 163 [.slice x.a x.xs.length x.c] (A++(ap4 3 rs++I)) λr J=>∃R,r = .tuple #[]/\(vc 3 (.slice x.a x.xs.length x.c) (V8 x.xs)::R).Perm (A++(ap4 3 (List.set rs i.toNat ⟨x.a,x.c,V8 x.xs⟩)++I))/\J=vc 3 (.slice x.a x.xs.length x.c) (V8 x.xs)::R:=by
 have M:=At.ow (I:=I) (ad:=x.a) (c:=x.c) (xs:=V8 x.xs) (rs:=rs) (i:=i) h0 h
 rw [hx] at M
 obtain ⟨R,h1,h2⟩:=M.perm
 rw [ad6] at h2
 have hp:(A++(ap4 3 rs++I)).Perm (vk 3 x.a x.c x.xs::(A++R)):=(List.Perm.append_left A h1).trans Mb
 have aa:(vc 3 (.slice x.a x.xs.length x.c) (V8 x.xs)::(A++R)).Perm (A++(ap4 3 (List.set rs i.toNat ⟨x.a,x.c,V8 x.xs⟩)++I)):=(Mb.symm).trans (List.Perm.append_left A h2.symm)
 exact Cm (Cj hp)<|(cj5 (e:=3) ab).mono λr J ⟨e1,e2⟩=>⟨A++R,e1,aa,e2⟩
theorem bx8{nd:Int}:∀{es:List Pt},es.Nodup->(∀e∈es,e.u<e.v)->∀v,(nbL es v).Nodup
  |[],_,_,v=>List.nodup_nil
  |e::es,hn,h,v=>by
    obtain ⟨h1,h2⟩:=Hx.1 hn
    have ih:=bx8 (nd:=nd) h2 (λx hx=>h x<|C_ _ hx) v
    have he:=h e A_
    have e1:nbL (e::es) v=((if e.u=v then [e.v] else [])++(if e.v=v then [e.u] else []))++nbL es v:=rfl
    rw [e1]
    by_cases a:e.u=v
    · rw [B_ a,An om,Gq]
      refine Hx.2 ⟨λM=>?_,ih⟩
      rcases ao1.1 M with hh|hh
      · exact h1 (by have:e=⟨v,e.v⟩:=by rw [Dc];exact ⟨a,rfl⟩
                     rw [this];exact hh)
      · have:=h _ (C_ _ hh);simp only at this;omega
    · rw [An a]
      by_cases b:e.v=v
      · rw [B_ b,Km]
        refine Hx.2 ⟨λM=>?_,ih⟩
        rcases ao1.1 M with hh|hh
        · have:=h _ (C_ _ hh);simp only at this;omega
        · exact h1 (by have:e=⟨e.u,v⟩:=by rw [Dc];exact ⟨rfl,b⟩
                       rw [this];exact hh)
      · rw [An b];exact ih
theorem dd0(M:s6 nd es)(v:Int):V8 (nbL es v)=nbG nd es v:=by
 have hn:=bx8 (nd:=nd) (Ff M.asc) (λe he=>(M.Z1 e he).2.1) v
 unfold nbG
 rw [An (by rw [s4.2 M];decide)]
 refine as2.uniq ?_ (R9 _) λx=>by rw [dg4,af8]
 have h1:=bc7 (nbL es v)
 have h2:(V8<|nbL es v).Nodup:=(ad5 _).nodup_iff.2 hn
 exact (h1.and h2).imp λh=>by have:=h.1;have:=h.2;omega
structure cq6 (nd:Int) (es:List Pt) (rs rs2:List (G1 Int)):Prop where
 len:(rs.length:Int)=nd/\(rs2.length:Int)=nd
 row:∀i:Int,0<=i->i<nd->e_ rs2 i=⟨(e_ rs i).a,(e_ rs i).c,nbG nd es i⟩/\(e_ rs i).xs.length=(nbG nd es i).length
structure bk0 (nd:Int) (rs rs2:List (G1 Int)) (k:Nat):Prop where
 len:rs2.length=rs.length
 done:∀i:Int,0<=i->i<(k:Int)->e_ rs2 i=⟨(e_ rs i).a,(e_ rs i).c,V8 (e_ rs i).xs⟩
 rest:∀i:Int,(k:Int)<=i->i<rs.length->e_ rs2 i=e_ rs i
theorem bk0.start(nd:Int)(rs:List (G1 Int)):bk0 nd rs rs 0:=⟨rfl,λi h0 M=>by omega,λi _ _=>rfl⟩
theorem bk0.step{rs M:List (G1 Int)}(h:bk0 nd rs M k)(hk:k<rs.length):bk0 nd rs (List.set M ((k:Int)).toNat ⟨(e_ rs k).a,(e_ rs k).c,V8 (e_ rs k).xs⟩) (k+1):=by
 have hl:=h.len
 refine ⟨by rw [Fo];exact hl,λi h0 h1=>?_,λi h0 h1=>?_⟩
 ·rw [Ei _ _ _ _ om h0 om]
  by_cases e:(k:Int)=i
  ·rw [B_ e,e]
  rw [An e];exact h.done i h0 om
 rw [Ei _ _ _ _ om om om,An om];exact h.rest i om h1
theorem bk0.all{rs M:List (G1 Int)}(hG:s6 nd es)(h:bk0 nd rs M k)(hR:bk1 nd es rs)(hk:k=rs.length):cq6 nd es rs M:=by
 have hl:=h.len
 have hr:=hR.len
 refine ⟨⟨hr,by omega⟩,λi h0 h1=>?_⟩
 have e:=hR.row i h0 h1
 rw [h.done i h0 om,e,dd0 hG]
 refine ⟨rfl,?_⟩
 rw [←dd0 hG,ad6]
theorem cq6.held{rs M:List (G1 Int)}(h:cq6 nd es rs M)(h0:0<=i)(h1:i<nd):Sl κ (ap4 3 M++I) (.slice (e_ rs i).a (e_ rs i).xs.length (e_ rs i).c) (nbG nd es i):=by
 obtain ⟨e,el⟩:=h.row i h0 h1
 have hh:=fn3 (κ:=κ) (I:=I) (rs:=M) (i:=i) h0 (by have:=h.len;omega)
 rw [e] at hh
 rw [el];exact hh
theorem ta9{p:Prop}(h:p:=by first|omega|(rw [Fo];omega)):p:=h
theorem cq5{va:Value}(hl:Sl κ I va es)(hG:s6 nd es):eu Tryz.prog κ 132 [.agg #[e7 nd,va]] I (λr J=>∃a c rs ad,r = .slice a (rs:List (G1 Int)).length c/\cq6 nd es rs ad/\J=vk 22 a c rs::(ap4 3 ad++I)):=by
 refine Bv hl.le λbe=>?_
 have a8:=hG.rng
 have bi:=q9 hG
 refine Ce1 Tryz.func132 C C ?_
 refine Ak<|Ge1 (Au (cs:=[_,_]) C C C) λb1=>Z ?_
 refine Ge2 (Dk (α:=(G1 Int)) (n:=nd.toNat) Cr U1 C C C om om dc C) λaa ab=>?_
 refine Ga C ?_
 have a9:(replicate nd.toNat (default:G1 Int)).length=nd.toNat:=Fy
 refine G.pull (p:=0<(replicate nd.toNat (default:G1 Int)).length->aa≠none) (vc.isSome mm) λM=>Z ?_
 refine B9 (σ:=Nat×(List<|G1 Int)) (λs=>([(3,.slice aa (replicate nd.toNat (default:(G1 Int))).length ab),(12,va),(13,e7 ((es.length:Nat):Int)),(14,e7 ((s.1:Nat):Int))]:Env)) (λs=>vc 22 (.slice aa (replicate nd.toNat (default:(G1 Int))).length ab) (s.2)::e8 b1 [e7 nd,va] 38::(ap4 3 s.2++I)) (λs=>(s.1<=es.length)/\(bk1 nd (es.take s.1) s.2)) (λs=>es.length - s.1) (0,replicate nd.toNat (default:(G1 Int))) (show ((0:Nat)<=es.length)/\(bk1 nd (es.take (0:Nat)) (replicate nd.toNat (default:(G1 Int)):List (G1 Int))) from ⟨om,(bk1.start om)⟩) (cx2<|Aa C<|Aa Co Bb) (show Fit κ _ (vk 22 aa ab (replicate nd.toNat (default:(G1 Int)))::e8 b1 [e7 nd,va] 38::(ap4 3 (replicate nd.toNat (default:(G1 Int)))++I)) from (A9 (show Fit κ _ (ap4 3 (replicate nd.toNat (default:(G1 Int)))++(vk 22 aa ab (replicate nd.toNat (default:(G1 Int)))::e8 b1 [e7 nd,va] 38::I)) from A9 Az (Fit.fy9 _<|λr hr=>Kf hr))<|Cj<|C1 (A:=ap4 3 (replicate nd.toNat (default:(G1 Int)))) (L:=[vk 22 aa ab (replicate nd.toNat (default:(G1 Int))),e8 b1 [e7 nd,va] 38]) (T:=I))) ?_
 rintro ⟨k,rs⟩ hp
 dsimp only at hp ⊢
 obtain ⟨hk,hR⟩:=hp
 have a3:=λh:k<es.length=>hG.at h
 have bh:=hR.len
 refine Z ?_
 refine Am C (λa5=>Z ?_)<|λa5=>Z ?_
 ·refine Ge1 (Aj s8 C) λb4=>Ge0 (Cs s8) ?_
  obtain ⟨bk,bg,bq⟩:=a3 om
  have bj:((e_ es k).u)<rs.length:=by omega
  have bf:0<=((e_ es k).v):=by omega
  have bo:((e_ es k).v)<rs.length:=by omega
  have a7:((e_ es k).u)≠((e_ es k).v):=by omega
  have aw:(((e_ rs<|(e_ es k).u).xs).length+([((e_ es k).v)]:List Int).length)*8<=140737488355328:=by rw [hR.row _ om om];have h2:=br4 (es.take k) ((e_ es k).u);simp only [Fp,E_,Fu] at h2 ⊢; omega
  have ay:(((e_ rs<|(e_ es k).v).xs).length+([((e_ es k).u)]:List Int).length)*8<=140737488355328:=by rw [hR.row _ om om];have h3:=br4 (es.take k) ((e_ es k).v);simp only [Fp,E_,Fu] at h3 ⊢; omega
  refine Ar<|Ba mixed<|Bx (e8 b4 [e7 ((e_ es k).u),e7<|(e_ es k).v] 105::I) 28<|Cd 0 C kr kr kr C kr (λ_ _ _ _ h=>h) (Ap C) C C X8 (Aq C) ?_
  refine Cd 1 C kr kr kr C kr (λ_ _ _ _ h=>h) (Ap C) C C X8 (Af N8 C) ?_
  refine Cd 2 C kr kr kr C kr (λ_ _ _ _ h=>h) (Ap C) C C X8 (Bd ef) ?_
  refine Cd 3 C kr kr kr C kr (λ_ _ _ _ h=>h) (Ap C) C C X8 (Aq C) ?_
  refine Cd 4 C kr kr kr C kr (λ_ _ _ _ h=>h) (Ap C) C C X8 (Af N7 C) ?_
  refine Cd 5 C kr kr kr C kr (λ_ _ _ _ h=>h) (Ap C) C C X8 (Bd ef) ?_
  refine Cd 6 C kr kr kr C kr (λ_ _ _ _ h=>h) (Ap C) C C X8 (Aq C) ?_
  refine Cd 7 C kr kr kr C kr (λ_ _ _ _ h=>h) (Ap C) C C X8 (Af N8 C) ?_
  refine Cd 8 C kr kr kr C kr (λ_ _ _ _ h=>h) (Ap C) C C X8 (Bd ef) ?_
  refine Cd 9 C kr kr kr C kr (λ_ _ _ _ h=>h) (Ap C) C C X8 (j8.idxs (G1 Int) Cr U1 C C (M om) om om) ?_
  refine Cd 11 C kr kr kr C kr (λ_ _ _ _ h=>h) (Ap C) C C X8 (Af N7 C) ?_
  refine Cd 12 C kr kr kr C kr (λ_ _ _ _ h=>h) (Ap C) C C X8 (Bd ef) ?_
  refine Cd 15 C kr kr kr C kr (λ_ _ _ _ h=>h) (Ap C) C C X8 (Aq C) ?_
  refine Cd 16 C kr kr kr C kr (λ_ _ _ _ h=>h) (Ap C) C C X8 (Af N7 C) ?_
  refine Cd 17 C kr kr kr C kr (λ_ _ _ _ h=>h) (Ap C) C C X8 (Bd ef) ?_
  refine Cd 18 C kr kr kr C kr (λ_ _ _ _ h=>h) (Ap C) C C X8 (j8.idxs (G1 Int) Cr U1 C C (M om) om om) ?_
  refine Cd 20 C kr kr kr C kr (λ_ _ _ _ h=>h) (Ap C) C C X8 (Af N8 C) ?_
  refine Cd 21 C kr kr kr C kr (λ_ _ _ _ h=>h) (Ap C) C C X8 (Bd ef) ?_
  refine D.two (e8 b4 [e7 ((e_ es k).u),e7<|(e_ es k).v] 105::vc 22 (.slice aa (replicate nd.toNat (default:(G1 Int))).length ab) (rs)::I) 25 X8 ?_
  refine Fe 10 C kr kr kr C kr (λ_ _ _ _ h=>h) (Ap C) C C X8 (Cc (α:=(G1 Int)) (xs:=rs) (u:= .slice (e_ rs<|(e_ es k).u).a (e_ rs<|(e_ es k).u).xs.length (e_ rs<|(e_ es k).u).c) U1 C A5 om om C) ?_
  refine Fe 19 C kr kr kr C kr (λ_ _ _ _ h=>h) (Ap C) C C X8 (Cc (α:=(G1 Int)) (xs:=rs) (u:= .slice (e_ rs<|(e_ es k).v).a (e_ rs<|(e_ es k).v).xs.length (e_ rs<|(e_ es k).v).c) U1 C A5 om om C) ?_
  refine Ez (rs:=[13,22]) kr C C<|Ej ?_<|Do ?_
  ·refine Dt C (Ap C) (B2 (α:=Int) (cs:=[_]) (xs:=[(e_ es k).v]) Ab ef C C dc dc C C C C) ?_
   rintro _ _ ⟨br,rfl,rfl⟩
   refine ⟨X8,?_⟩
   refine Ez (rs:=[14,22]) kr C C<|Ej ?_<|Do ?_
   ·refine Dt C (Ap C) (Br (α:=Int) (e:=3) (xs:=(e_ rs<|(e_ es k).u).xs) (ys:=([(e_ es k).v]:List Int)) Ab ef C C C Mmp A5 aw dc C<|λ_ _=>Atp) ?_
    rintro _ _ ⟨ax,av,rfl,rfl⟩
    refine ⟨X8,?_⟩
    refine Ez (rs:=[22]) kr C C<|Do ?_
    refine Dt C (Ap C) (B2 (α:=Int) (cs:=[_]) (xs:=[(e_ es k).u]) Ab ef C C dc dc C C C C) ?_
    rintro _ _ ⟨bn,rfl,rfl⟩
    refine ⟨X8,?_⟩
    refine Ez (rs:=[23]) kr C C<|Do ?_
    refine Dt C (Ap C) (Br (α:=Int) (e:=3) (xs:=(e_ rs<|(e_ es k).v).xs) (ys:=([(e_ es k).u]:List Int)) Ab ef C C C Mmp A5 ay dc C<|λ_ _=>Atp) ?_
    rintro _ _ ⟨a1,ap,rfl,rfl⟩
    refine ⟨X8,?_⟩
    refine Fe 24 C kr kr kr C kr (λ_ _ _ _ h=>h) (Ap C) C C X8 (j8.idxs (G1 Int) Cr U1 C C (M om) om om) ?_
    refine D2.stop kr ?_
    refine Ds1 25<|Se C (Cw (α:=(G1 Int)) (xs:=rs) (e:=22) (new:=(⟨ax,av,((e_ rs<|(e_ es k).u).xs++([(e_ es k).v]:List Int))⟩:G1 Int)) U1 C C C om ta9 am) ?_
    rintro _ _ ⟨rfl,rfl⟩
    refine ⟨X8,?_⟩
    refine Cd 26 C kr kr kr C kr (λ_ _ _ _ h=>h) (Ap C) C C X8 (j8.idxs (G1 Int) Cr U1 C C (M om) om om) ?_
    refine Ds1 27<|Se C (Cw (α:=(G1 Int)) (xs:=List.set rs ((e_ es k).u).toNat (⟨ax,av,((e_ rs<|(e_ es k).u).xs++([(e_ es k).v]:List Int))⟩:G1 Int)) (e:=22) (new:=(⟨a1,ap,((e_ rs<|(e_ es k).v).xs++([(e_ es k).u]:List Int))⟩:G1 Int)) U1 C C C om ta9 am) ?_
    rintro _ _ ⟨rfl,rfl⟩
    refine ⟨X8,?_⟩
    refine Z ?_
    exact Bt ((k+1),(List.set (List.set rs ((e_ es k).u).toNat (⟨ax,av,((e_ rs<|(e_ es k).u).xs++([(e_ es k).v]:List Int))⟩:G1 Int)) ((e_ es k).v).toNat (⟨a1,ap,((e_ rs<|(e_ es k).v).xs++([(e_ es k).u]:List Int))⟩:G1 Int)))<|by dsimp only;exact ⟨om,(hR.push om om _ _ _ _)⟩
   refine Dt C (Ap C) (B2 (α:=Int) (cs:=[_]) (xs:=[(e_ es k).u]) Ab ef C C dc dc C C C C) ?_
   rintro _ _ ⟨bb,rfl,rfl⟩
   refine ⟨X8,?_⟩
   refine Ez (rs:=[14]) kr C C<|Do ?_
   refine Dt C (Ap C) (Br (α:=Int) (e:=3) (xs:=(e_ rs<|(e_ es k).u).xs) (ys:=([(e_ es k).v]:List Int)) Ab ef C C C Mmp A5 aw dc C<|λ_ _=>Atp) ?_
   rintro _ _ ⟨aj,ah,rfl,rfl⟩
   refine ⟨X8,?_⟩
   refine Ez (rs:=[23]) kr C C<|Do ?_
   refine Dt C (Ap C) (Br (α:=Int) (e:=3) (xs:=(e_ rs<|(e_ es k).v).xs) (ys:=([(e_ es k).u]:List Int)) Ab ef C C C Mmp A5 ay dc C<|λ_ _=>Atp) ?_
   rintro _ _ ⟨ao,au,rfl,rfl⟩
   refine ⟨X8,?_⟩
   refine Fe 24 C kr kr kr C kr (λ_ _ _ _ h=>h) (Ap C) C C X8 (j8.idxs (G1 Int) Cr U1 C C (M om) om om) ?_
   refine D2.stop kr ?_
   refine Ds1 25<|Se C (Cw (α:=(G1 Int)) (xs:=rs) (e:=22) (new:=(⟨aj,ah,((e_ rs<|(e_ es k).u).xs++([(e_ es k).v]:List Int))⟩:G1 Int)) U1 C C C om ta9 am) ?_
   rintro _ _ ⟨rfl,rfl⟩
   refine ⟨X8,?_⟩
   refine Cd 26 C kr kr kr C kr (λ_ _ _ _ h=>h) (Ap C) C C X8 (j8.idxs (G1 Int) Cr U1 C C (M om) om om) ?_
   refine Ds1 27<|Se C (Cw (α:=(G1 Int)) (xs:=List.set rs ((e_ es k).u).toNat (⟨aj,ah,((e_ rs<|(e_ es k).u).xs++([(e_ es k).v]:List Int))⟩:G1 Int)) (e:=22) (new:=(⟨ao,au,((e_ rs<|(e_ es k).v).xs++([(e_ es k).u]:List Int))⟩:G1 Int)) U1 C C C om ta9 am) ?_
   rintro _ _ ⟨rfl,rfl⟩
   refine ⟨X8,?_⟩
   refine Z ?_
   exact Bt ((k+1),(List.set (List.set rs ((e_ es k).u).toNat (⟨aj,ah,((e_ rs<|(e_ es k).u).xs++([(e_ es k).v]:List Int))⟩:G1 Int)) ((e_ es k).v).toNat (⟨ao,au,((e_ rs<|(e_ es k).v).xs++([(e_ es k).u]:List Int))⟩:G1 Int)))<|by dsimp only;exact ⟨om,(hR.push om om _ _ _ _)⟩
  refine Dt C (Ap C) (B2 (α:=Int) (cs:=[_]) (xs:=[(e_ es k).u]) Ab ef C C dc dc C C C C) ?_
  rintro _ _ ⟨bc,rfl,rfl⟩
  refine ⟨X8,?_⟩
  refine Ez (rs:=[13]) kr C C<|Do ?_
  refine Dt C (Ap C) (B2 (α:=Int) (cs:=[_]) (xs:=[(e_ es k).v]) Ab ef C C dc dc C C C C) ?_
  rintro _ _ ⟨ba,rfl,rfl⟩
  refine ⟨X8,?_⟩
  refine Ez (rs:=[14]) kr C C<|Do ?_
  refine Dt C (Ap C) (Br (α:=Int) (e:=3) (xs:=(e_ rs<|(e_ es k).u).xs) (ys:=([(e_ es k).v]:List Int)) Ab ef C C C Mmp A5 aw dc C<|λ_ _=>Atp) ?_
  rintro _ _ ⟨ai,ae,rfl,rfl⟩
  refine ⟨X8,?_⟩
  refine Ez (rs:=[23]) kr C C<|Do ?_
  refine Dt C (Ap C) (Br (α:=Int) (e:=3) (xs:=(e_ rs<|(e_ es k).v).xs) (ys:=([(e_ es k).u]:List Int)) Ab ef C C C Mmp A5 ay dc C<|λ_ _=>Atp) ?_
  rintro _ _ ⟨ar,aq,rfl,rfl⟩
  refine ⟨X8,?_⟩
  refine Fe 24 C kr kr kr C kr (λ_ _ _ _ h=>h) (Ap C) C C X8 (j8.idxs (G1 Int) Cr U1 C C (M om) om om) ?_
  refine D2.stop kr ?_
  refine Ds1 25<|Se C (Cw (α:=(G1 Int)) (xs:=rs) (e:=22) (new:=(⟨ai,ae,((e_ rs<|(e_ es k).u).xs++([(e_ es k).v]:List Int))⟩:G1 Int)) U1 C C C om ta9 am) ?_
  rintro _ _ ⟨rfl,rfl⟩
  refine ⟨X8,?_⟩
  refine Cd 26 C kr kr kr C kr (λ_ _ _ _ h=>h) (Ap C) C C X8 (j8.idxs (G1 Int) Cr U1 C C (M om) om om) ?_
  refine Ds1 27<|Se C (Cw (α:=(G1 Int)) (xs:=List.set rs ((e_ es k).u).toNat (⟨ai,ae,((e_ rs<|(e_ es k).u).xs++([(e_ es k).v]:List Int))⟩:G1 Int)) (e:=22) (new:=(⟨ar,aq,((e_ rs<|(e_ es k).v).xs++([(e_ es k).u]:List Int))⟩:G1 Int)) U1 C C C om ta9 am) ?_
  rintro _ _ ⟨rfl,rfl⟩
  refine ⟨X8,?_⟩
  refine Z ?_
  exact Bt ((k+1),(List.set (List.set rs ((e_ es k).u).toNat (⟨ai,ae,((e_ rs<|(e_ es k).u).xs++([(e_ es k).v]:List Int))⟩:G1 Int)) ((e_ es k).v).toNat (⟨ar,aq,((e_ rs<|(e_ es k).v).xs++([(e_ es k).u]:List Int))⟩:G1 Int)))<|by dsimp only;exact ⟨om,(hR.push om om _ _ _ _)⟩
 have az:bk1 nd es rs:=by rw [Fv om] at hR;exact hR
 refine Z ?_
 refine B9 (σ:=Nat×(List<|G1 Int)) (λs=>([(3,.slice aa (replicate nd.toNat (default:(G1 Int))).length ab),(45,.slice aa (replicate nd.toNat (default:(G1 Int))).length ab),(46,e7<|(((replicate nd.toNat (default:(G1 Int))).length:Nat):Int)),(47,e7 ((s.1:Nat):Int))]:Env)) (λs=>vc 22 (.slice aa (replicate nd.toNat (default:(G1 Int))).length ab) (rs)::e8 b1 [e7 nd,va] 38::(ap4 3 s.2++I)) (λs=>(s.1<=rs.length)/\(bk0 nd rs s.2 s.1)) (λs=>rs.length - s.1) (0,rs) (show ((0:Nat)<=rs.length)/\(bk0 nd rs (rs:List (G1 Int)) (0:Nat)) from ⟨om,(bk0.start nd rs)⟩) (cx2<|Aa C<|Aa Co Bb) (show Fit κ _ (vc 22 (.slice aa (replicate nd.toNat (default:(G1 Int))).length ab) (rs)::e8 b1 [e7 nd,va] 38::(ap4 3 (rs)++I)) from Ai) ?_
 rintro ⟨k2,ad⟩ hp
 dsimp only at hp ⊢
 obtain ⟨bp,an⟩:=hp
 have bm:=an.len
 refine Z ?_
 refine Am C (λa6=>Z ?_)<|λa6=>Z ?_
 ·refine G.e (Ac c_ C C<|eu.gi2 (A:=[vc 22 (.slice aa (replicate nd.toNat (default:(G1 Int))).length ab) rs,e8 b1 [e7 nd,va] 38]) (I:=I) (rs:=ad) (i:=(k2:Int)) (x:=(e_ rs k2)) (an.rest _ (Hl _) om) om om<|by rw [az.row _ om om];have:=br4 es (k2:Int);omega) ?_
  rintro _ _ ⟨_,_,⟨R922,rfl,ak,rfl⟩,rfl,rfl⟩
  refine Dq (J:=vc 22 (.slice aa (replicate nd.toNat (default:(G1 Int))).length ab) (rs)::e8 b1 [e7 nd,va] 38::(ap4 3 (List.set ad ((k2:Int)).toNat ⟨(e_ rs k2).a,(e_ rs k2).c,V8 (e_ rs k2).xs⟩)++I)) (Cj ak)<|Z ?_
  exact Bt ((k2+1),((List.set ad ((k2:Int)).toNat ⟨(e_ rs k2).a,(e_ rs k2).c,V8 (e_ rs k2).xs⟩)))<|by dsimp only;exact ⟨om,(an.step om)⟩
 have a4:=an.all hG az om
 have a0:(replicate nd.toNat (default:(G1 Int))).length=rs.length:=by have:=az.len;omega
 exact Al C C (vk 22 aa ab rs::(ap4 3 ad++I)) (by unfold vk;rw [←a0];exact Ai) ⟨aa,ab,rs,ad,by rw [←a0],a4,rfl⟩
end Go.Sl
namespace Go.Sl
open Go.Proofs
set_option maxRecDepth 4000
variable{w x y:Int}{n:Nat}
section
variable {nd:Int}{es:List Pt}{X S Y:List Int}{v:Int}
theorem P7(u v:Int):j4 u v=j4 v u:=by
 unfold j4
 rcases Lx u v with h|h|h
 ·rw [An om,B_ h,B_ h,An om]
 ·subst h;rfl
 rw [B_ h,An om,An om,B_ h]
end
section
variable {nd:Int}{es:List Pt}
theorem ab0{a b c d:Int}(h:j4 a b=j4 c d):(a=c/\b=d)\/(a=d/\b=c):=by
 unfold j4 at h
 rw [Dc] at h
 simp only at h
 obtain ⟨M,h2⟩:=h
 repeat (first|omega|split at M|split at h2)
theorem K7{e:Pt}(h:e.u<e.v):j4 e.u e.v=e:=by
 unfold j4
 rw [An om,B_ h]
theorem L0(M:s6 nd es){u v:Int}(h:u≠v):w∈j3 nd es u v↔j4 u w∈es/\j4 v w∈es:=by
 have hm:∀x:Int,w∈nbG nd es x↔j4 x w∈es:=λx=>by
  unfold nbG
  rw [An (by rw [s4.2 M];decide),af8,ao1]
  constructor
  ·rintro (h|h)
   ·have:=(M.Z1 _ h).2.1
    rw [←K7 this] at h;exact h
   have:=(M.Z1 _ h).2.1
   rw [←K7 this,P7] at h;exact h
  intro h
  have hlt:=(M.Z1 _ h).2.1
  rcases Lx x w with h1|h1|h1
  ·have e:j4 x w=⟨x,w⟩:=K7 (e:=⟨x,w⟩) h1
   exact .inl<|e▸h
  ·subst h1;unfold j4 at hlt;simp at hlt
  have e:j4 x w=⟨w,x⟩:=by rw [P7];exact K7 (e:=⟨w,x⟩) h1
  exact .inr<|e▸h
 unfold j3
 rw [An h,T1,hm,hm]
theorem ao7(M:s6 nd es){u:Int}(h:j4 u w∈es):u≠w:=λe=>by
 subst e
 have:=(M.Z1 _ h).2.1
 unfold j4 at this;simp at this
theorem bf0(hG:s6 nd es){e:Pt}(h:e∈es):(es.idxOf e)<es.length/\e_ es ((es.idxOf e:Nat):Int)=e:=by
 have M:=Kk h
 exact ⟨M,by rw [Ct _ _ M];exact List.getElem_idxOf M⟩
theorem idx_eq(hG:s6 nd es){i:Nat}(h:i<es.length):es.idxOf (e_ es i)=i:=by
 have hm:=Bp (xs:=es) (i:=(i:Int)) om om
 obtain ⟨M,h2⟩:=bf0 hG hm
 generalize es.idxOf (e_ es i)=k at M h2
 have hn:=Ff hG.asc
 rw [Ct _ _ M,Ct _ i h] at h2
 rcases Kn k i with h3|h3|h3
 ·exact absurd h2<|(H1.1 hn) k i M h h3
 ·exact h3
 exact absurd h2.symm<|(H1.1 hn) i k h M h3
theorem aj2(M:s6 nd es){e f:Pt}(he:e∈es)(hf:f∈es)(h:es.idxOf e=es.idxOf f):e=f:=by
 rw [←(bf0 M he).2,←(bf0 M hf).2,h]
theorem bw1{i:Int}(M:0<=i)(h1:i<es.length):e_ (G2 nd es) i=ah9 nd es (e_ es i):=by
 obtain ⟨k,rfl⟩:=Hm M
 unfold G2
 rw [Ct _ k (by rw [F_];omega),Ct _ k om,Jj]
theorem ar6(hG:s6 nd es){e:Pt}(he:e∈es){p:Pt}:p∈ah9 nd es e↔∃w,j4 e.u w∈es/\j4 e.v w∈es/\p=⟨((es.idxOf (j4 e.u w):Nat):Int),((es.idxOf (j4 e.v w):Nat):Int)⟩:=by
 have hlt:=(hG.Z1 e he).2.1
 unfold ah9
 rw [Gv]
 constructor
 ·rintro ⟨w,hw,rfl⟩
  obtain ⟨M,h2⟩:=(L0 hG om).1 hw
  exact ⟨w,M,h2,rfl⟩
 rintro ⟨w,M,h2,rfl⟩
 exact ⟨w,(L0 hG om).2 ⟨M,h2⟩,rfl⟩
theorem cj1(hG:s6 nd es)(M:j4 x y∈es)(hx:j4 x w∈es)(hy:j4 y w∈es):fc4 (G2 nd es) ((es.idxOf (j4 x y):Nat):Int) ((es.idxOf (j4 x w):Nat):Int) ((es.idxOf (j4 y w):Nat):Int):=by
 obtain ⟨h1,h2⟩:=bf0 hG M
 unfold fc4
 rw [bw1 om om,h2,ar6 hG M,ar6 hG M]
 rcases Lx x y with h|h|h
 ·have e:j4 x y=⟨x,y⟩:=K7 (e:=⟨x,y⟩) h
  rw [e]
  exact .inl ⟨w,hx,hy,rfl⟩
 ·exact absurd h<|ao7 hG M
 have e:j4 x y=⟨y,x⟩:=by rw [P7];exact K7 (e:=⟨y,x⟩) h
 rw [e]
 exact .inr ⟨w,hy,hx,rfl⟩
theorem ds9(M:s6 nd es):cw6 (G2 nd es):=by
 have hl:(G2 nd es).length=es.length:=F_ ..
 refine ⟨λi h0 h1 p hp=>?_,λi a b h0 h1 hT=>?_,λi h0 h1=>?_⟩
 ·rw [hl] at h1
  have he:=Bp h0 h1
  have hlt:=(M.Z1 _ he).2.1
  rw [bw1 h0 h1,ar6 M he] at hp
  obtain ⟨w,hu,hv,rfl⟩:=hp
  have a1:=(bf0 M hu).1
  have a2:=(bf0 M hv).1
  have n1:=ao7 M hu
  have n2:=ao7 M hv
  have hi:es.idxOf (e_ es i)=i.toNat:=by
   obtain ⟨k,rfl⟩:=Hm h0
   rw [idx_eq M om];simp
  refine ⟨by simp only;omega,λe=>?_,λe=>?_,λe=>?_⟩
  ·have:=ab0 (aj2 M hu hv<|by simp only at e;omega);omega
  ·have h3:=aj2 M hu he (by simp only at e;omega)
   rw [←K7 hlt] at h3
   have:=ab0 h3;omega
  have h3:=aj2 M hv he (by simp only at e;omega)
  rw [←K7 hlt] at h3
  have:=ab0 h3;omega
 ·rw [hl] at h1
  have he:=Bp h0 h1
  have hlt:=(M.Z1 _ he).2.1
  have hi:i=((es.idxOf (j4 (e_ es i).u (e_ es i).v):Nat):Int):=by
   rw [K7 hlt]
   obtain ⟨k,rfl⟩:=Hm h0
   rw [idx_eq M om]
  have ab:j4 (e_ es i).u (e_ es i).v∈es:=by rw [K7 hlt];exact he
  unfold fc4 at hT
  rw [bw1 h0 h1,ar6 M he,ar6 M he] at hT
  rcases hT with ⟨w,hu,hv,e⟩|⟨w,hu,hv,e⟩
  ·rw [Dc] at e
   obtain ⟨e1,e2⟩:=e
   simp only at e1 e2
   rw [e1,e2]
   have:=cj1 M (x:=(e_ es i).u) (y:=w) (w:=(e_ es i).v) hu ab (by rw [P7];exact hv)
   rw [P7 w,←hi] at this;exact this
  rw [Dc] at e
  obtain ⟨e1,e2⟩:=e
  simp only at e1 e2
  rw [e1,e2]
  have:=cj1 M (x:=(e_ es i).v) (y:=w) (w:=(e_ es i).u) hv (by rw [P7];exact ab) (by rw [P7];exact hu)
  rw [P7 w,P7 (e_ es i).v (e_ es i).u,←hi] at this;exact this
 rw [hl] at h1
 have he:=Bp h0 h1
 have hlt:=(M.Z1 _ he).2.1
 rw [bw1 h0 h1]
 unfold ah9
 have aa:(j3 nd es (e_ es i).u (e_ es i).v).Pairwise (λx0 x1:Int=>x0<x1):=by
  unfold j3;split
  ·exact List.Pairwise.nil
  unfold Z9;exact (R9 _).sublist He
 refine Mr.2<|List.Pairwise.imp_of_mem (fun {w z} hw hz ad=>?_) aa
 obtain ⟨w1,w2⟩:=(L0 M om).1 hw
 obtain ⟨z1,z2⟩:=(L0 M om).1 hz
 have q1:=ao7 M w1
 have q2:=ao7 M w2
 have q3:=ao7 M z1
 have q4:=ao7 M z2
 refine ⟨λe=>?_,λe=>?_,λe=>?_,λe=>?_⟩
 ·have:=ab0 (aj2 M w1 z1<|by simp only at e;omega);omega
 ·have:=ab0 (aj2 M w1 z2<|by simp only at e;omega);omega
 ·have:=ab0 (aj2 M w2 z1<|by simp only at e;omega);omega
 have:=ab0 (aj2 M w2 z2<|by simp only at e;omega);omega
end
section
variable {nd:Int}{es es':List Pt}{u v:Int}
def ds8(nd:Int)(es:List Pt)(e:Pt):List (Pt×Pt):=(j3 nd es e.u e.v).map λw=>(j4 e.u w,j4 e.v w)
def bp2(nd:Int)(es:List Pt)(e:Pt):Nat:=(e_ (j6 nd es) ((es.idxOf e:Nat):Int)).toNat
theorem bv7(M:s6 nd es):j6 nd es=ax9 (G2 nd es):=An (by rw [s4.2 M];decide)
theorem fm2(M:s6 nd es){e:Pt}(he:e∈es):∀p∈ds8 nd es e,p.1∈es/\p.2∈es:=λp hp=>by
 obtain ⟨w,hw,rfl⟩:=Gv.1 hp
 exact am4 M he hw
theorem aq0(hG:s6 nd es):bu8 (λe=>e∈es) (ds8 nd es) (bp2 nd es):=by
 have h1:=bv8 (ds9 hG) (db7 (ds9 hG)<|av1 hG)
 have hl:(G2 nd es).length=es.length:=F_ ..
 have h2:=h1.move (E:=λe=>e∈es) (tri:=ds8 nd es) (λe=>((es.idxOf e:Nat):Int)) (λe M=>by have:=Kk M;constructor<;>omega) (λe e' M aa h=>aj2 hG M aa om)
  (λb hb=>⟨e_ es b,Bp hb.1 om,by
   obtain ⟨k,rfl⟩:=Hm hb.1
   show ((es.idxOf (e_ es k):Nat):Int)=(k:Int)
   rw [idx_eq hG om]⟩)
  (λe M=>fm2 hG M) (λe M=>by
   have hlt:=Kk M
   unfold da6 ds8
   rw [bw1 om om,(bf0 hG M).2]
   unfold ah9
   rw [List.map_map,List.map_map]
   rfl)
 intro e M k
 have:=h2 e M k
 unfold bp2
 rw [bv7 hG]
 exact this
theorem aj8(X:Pt->Bool)(e:Pt):cd2 (ds8 nd es) X e=((j3 nd es e.u e.v).filter λw=>X (j4 e.u w)&&X (j4 e.v w)).length:=by
 unfold cd2 ds8
 rw [Lb,F_]
 rfl
theorem H4(nd:Int)(es:List Pt)(x y:Int):(j3 nd es x y).Nodup:=by
 unfold j3
 split
 ·exact List.nodup_nil
 unfold Z9;exact ((R9 _).imp λh=>by omega:(ofL<|nbG nd es x).Nodup).filter _
theorem R5.cnt(h:R5 nd es es' u v){e:Pt}(he:e∈es')(ae:e≠j4 u v){X Y:Pt->Bool}(ad:∀f,X f=true->f≠j4 u v->Y f=true):cd2 (ds8 nd es') X e<=cd2 (ds8 nd es) Y e+1:=by
 have ah:=h.ok'.Z1 e he
 rw [aj8,aj8]
 have ab:=h.ends
 unfold F5 at ab
 have h1:∀w∈(j3 nd es' e.u e.v).filter (λw=>X (j4 e.u w)&&X (j4 e.v w)),w∈(if e.u=u then v else if e.u=v then u else if e.v=u then v else u)::(j3 nd es e.u e.v).filter λw=>Y (j4 e.u w)&&Y (j4 e.v w):=λw hw=>by
  obtain ⟨w1,w2⟩:=Gg.1 hw
  obtain ⟨w3,w4⟩:=L7.1 w2
  obtain ⟨m1,m2⟩:=(L0 h.ok' om).1 w1
  by_cases q:j4 e.u w≠j4 u v/\j4 e.v w≠j4 u v
  ·refine C_ _ (Gg.2 ⟨(L0 h.ok om).2 ⟨?_,?_⟩,L7.2 ⟨ad _ w3 q.1,ad _ w4 q.2⟩⟩)
   ·exact ((h.mem _).1 m1).resolve_right q.1
   exact ((h.mem _).1 m2).resolve_right q.2
  have two:∀a b:Int,j4 a b=j4 u v->(a=u/\b=v)\/(a=v/\b=u):=λa b M=>by
   rw [Dc] at M
   unfold j4 at M
   simp only at M
   split at M<;>split at M<;>split at M<;>split at M<;>omega
  have aa:¬((e.u=u/\e.v=v)\/(e.u=v/\e.v=u)):=λq2=>ae (by
   rw [Dc]
   unfold j4
   simp only
   split<;>split<;>omega)
  have:w=if e.u=u then v else if e.u=v then u else if e.v=u then v else u:=by
   have q':j4 e.u w=j4 u v\/j4 e.v w=j4 u v:=Gb λq3=>q ⟨λq4=>q3<|.inl q4,λq4=>q3<|.inr q4⟩
   rcases q' with q'|q'
   ·rcases two _ _ q' with ⟨a,b⟩|⟨a,b⟩
    ·rw [B_ a];exact b
    rw [An om,B_ a];exact b
   rcases two _ _ q' with ⟨a,b⟩|⟨a,b⟩
   ·by_cases c1:e.u=u
    ·omega
    by_cases c2:e.u=v
    ·exact absurd (.inr ⟨c2,a⟩) aa
    rw [An c1,An c2,B_ a];exact b
   by_cases c1:e.u=u
   ·exact absurd (.inl ⟨c1,a⟩) aa
   by_cases c2:e.u=v
   ·omega
   rw [An c1,An c2,An om];exact b
  rw [this];exact A_
 have:=Hk ((H4 nd es' e.u e.v).filter _) h1
 simpa using this
theorem R5.ga8(h:R5 nd es es' u v){e:Pt}(he:e∈es)(X:Pt->Bool):cd2 (ds8 nd es) X e<=cd2 (ds8 nd es') X e:=by
 have aa:=h.ok.Z1 e he
 rw [aj8,aj8]
 refine Hk ((H4 nd es e.u e.v).filter _) λw hw=>?_
 obtain ⟨w1,w2⟩:=Gg.1 hw
 obtain ⟨m1,M⟩:=(L0 h.ok om).1 w1
 exact Gg.2 ⟨(L0 h.ok' om).2 ⟨(h.mem _).2 (.inl m1),(h.mem _).2 (.inl M)⟩,w2⟩
theorem R5.fv8(h:R5 nd es es' u v){e:Pt}(he:e∈es):bp2 nd es e<=bp2 nd es' e/\bp2 nd es' e<=bp2 nd es e+1:=by
 have aa:e≠j4 u v:=λq=>h.no (q▸he)
 exact ⟨fw2 (aq0 h.ok') (aq0 h.ok) (λf M=>(h.mem f).2 (.inl M)) (λf M X=>h.ga8 M X) he,
  fw0 (aq0 h.ok) (aq0 h.ok') (j4 u v) (λf M hn=>((h.mem f).1 M).resolve_right hn) (λf M hn X Y ab=>h.cnt M hn ab) ((h.mem e).2 (.inl he)) aa⟩
theorem R5.db5(h:R5 nd es es' u v):bp2 nd es' (j4 u v)<=(j3 nd es' u v).length:=by
 have hm:j4 u v∈es':=(h.mem _).2 (.inr rfl)
 obtain ⟨X,h1,h2⟩:=(aq0 h.ok' _ hm _).1 (Gd _)
 have h3:=h1.deg _ h2
 rw [aj8] at h3
 refine G_ h3<|G_ (Gs _ _) ?_
 have aa:u≠v:=by have:=h.ends;unfold F5 at this;omega
 refine Hk (H4 _ _ _ _) λw hw=>?_
 have hu:(j4 u v).u≠(j4 u v).v:=by have:=h.ok'.Z1 _ hm;omega
 obtain ⟨m1,M⟩:=(L0 h.ok' hu).1 hw
 rw [L0 h.ok' aa]
 rcases co5 h.ends with ⟨q,_⟩|⟨q,_⟩
 ·rw [q] at m1 M;exact ⟨m1,M⟩
 rw [q] at m1 M;exact ⟨M,m1⟩
end
theorem aq3(g:Nat->Int):∀{l:List Int},l.Nodup->(∀x∈l,0<=x/\x<(n:Int))->(l.map λx=>g x.toNat).sum=p9 n λj=>if (j:Int)∈l then g j else 0
 |[],_,_=>by rw [Du n (λj _=>An<|by simp)];rfl
 |x::l,hn,hr=>by
  obtain ⟨h1,h2⟩:=Hx.1 hn
  have hx:=hr x A_
  rw [Hg,Jb,aq3 g h2 λy hy=>hr y<|C_ _ hy]
  have e1:p9 n (λj=>if (j:Int)∈x::l then g j else 0)=p9 n λj=>(if j=x.toNat then g x.toNat else 0)+if (j:Int)∈l then g j else 0:=B1 n λj hj=>by
   by_cases hq:j=x.toNat
   ·have M:(j:Int)=x:=by omega
    rw [B_ (by rw [M];exact A_),B_ hq,An<|by rw [M];exact h1,hq];omega
   have M:(j:Int)≠x:=by omega
   rw [An hq,Mm]
   by_cases hm:(j:Int)∈l
   ·rw [B_ hm,B_<|C_ _ hm]
   rw [An hm,An<|λq=>(Fw.1 q).elim M hm]
  rw [e1,F9,R6 om]
theorem cm6{l:List Int}(hn:l.Nodup)(M:∀x∈l,0<=x/\x<(n:Int)):(l.length:Int)=p9 n λj=>ind (decide ((j:Int)∈l)):=by
 have:=aq3 (n:=n) (λ_=>1) hn M
 have e:∀l:List Int,(l.map λ_=>(1:Int)).sum=(l.length:Int):=λl=>by
  induction l with
  |nil=>rfl
  |cons x l ih=>rw [Hg,Jb,ih,E_];omega
 rw [e] at this
 rw [this]
 exact B1 n λj _=>(E4 _).symm
theorem bw3(g:Nat->Nat->Int):∀{es:List Pt},es.Nodup->(∀p∈es,(0<=p.u/\p.u<(n:Int))/\0<=p.v/\p.v<(n:Int))->(es.map λp=>g p.u.toNat p.v.toNat).sum=p9 n λx=>p9 n λy=>if (⟨(x:Int),(y:Int)⟩:Pt)∈es then g x y else 0
 |[],_,_=>by rw [Du n (λx _=>Du n λy _=>An<|by simp)];rfl
 |p::es,hn,hr=>by
  obtain ⟨h1,h2⟩:=Hx.1 hn
  have hp:=hr p A_
  rw [Hg,Jb,bw3 g h2 λy hy=>hr y<|C_ _ hy]
  have e1:(p9 n λx=>p9 n λy=>if (⟨(x:Int),(y:Int)⟩:Pt)∈p::es then g x y else 0)=p9 n λx=>(if x=p.u.toNat then g p.u.toNat p.v.toNat else 0)+p9 n λy=>if (⟨(x:Int),(y:Int)⟩:Pt)∈es then g x y else 0:=B1 n λx hx=>by
   by_cases hq:x=p.u.toNat
   ·rw [B_ hq]
    have e2:(p9 n λy=>if (⟨(x:Int),(y:Int)⟩:Pt)∈p::es then g x y else 0)=p9 n λy=>(if y=p.v.toNat then g p.u.toNat p.v.toNat else 0)+if (⟨(x:Int),(y:Int)⟩:Pt)∈es then g x y else 0:=B1 n λy hy=>by
     by_cases hr2:y=p.v.toNat
     ·have M:(⟨(x:Int),(y:Int)⟩:Pt)=p:=by rw [Dc];simp only;omega
      rw [B_ (by rw [M];exact A_),B_ hr2,An<|by rw [M];exact h1,hq,hr2];omega
     have M:(⟨(x:Int),(y:Int)⟩:Pt)≠p:=λq=>by rw [Dc] at q;simp only at q;omega
     rw [An hr2,Mm]
     by_cases hm:(⟨(x:Int),(y:Int)⟩:Pt)∈es
     ·rw [B_ hm,B_<|C_ _ hm]
     rw [An hm,An<|λq=>(Fw.1 q).elim M hm]
    rw [e2,F9,R6 om]
   rw [An hq,Mm]
   refine B1 n λy hy=>?_
   have M:(⟨(x:Int),(y:Int)⟩:Pt)≠p:=λq=>by rw [Dc] at q;simp only at q;omega
   by_cases hm:(⟨(x:Int),(y:Int)⟩:Pt)∈es
   ·rw [B_ hm,B_<|C_ _ hm]
   rw [An hm,An<|λq=>(Fw.1 q).elim M hm]
  rw [e1,F9,R6 om]
section
variable {nd:Int}{es es':List Pt}{u v:Int}
def M3(nd:Int)(es:List Pt)(x y:Nat):Bool:=decide (((y:Int))∈nbG nd es (x:Int))
theorem ag4(M:s6 nd es):ft6 nd.toNat (M3 nd es):=
 ⟨λx y=>by unfold M3;rw [Fs];exact ⟨λh=>ag9 M h,λh=>ag9 M h⟩,λx=>D_ λh=>(N3 M h).2.2 rfl⟩
theorem R5.adj(h:R5 nd es es' u v):L3 nd.toNat (M3 nd es) (M3 nd es') u.toNat v.toNat:=by
 have M:=h.ends
 unfold F5 at M
 refine ⟨ag4 h.ok,by omega,by omega,by omega,?_,λx y=>?_⟩
 ·unfold M3
  rw [Gz M.1,Gz M.2.1]
  exact D_ h.nuv.1
 unfold M3
 rw [Ka,Gp,h.nb,Ki,Ki,Gp,Gp,Gp]
 refine or_congr Iff.rfl<|or_congr ?_ ?_
 ·omega
 omega
theorem fq8(M:s6 nd es)(x y:Nat):M3 nd es x y=(decide ((⟨(x:Int),(y:Int)⟩:Pt)∈es)||decide ((⟨(y:Int),(x:Int)⟩:Pt)∈es)):=by
 unfold M3
 rw [Ka,Gp,ae1 M,Ki,Gp,Gp]
theorem bw4(hG:s6 nd es)(g:Nat->Nat->Int)(hg:∀x y,g x y=g y x):2*(es.map λp=>g p.u.toNat p.v.toNat).sum=p9 nd.toNat λx=>p9 nd.toNat λy=>if M3 nd es x y=true then g x y else 0:=by
 have hr:∀p∈es,(0<=p.u/\p.u<(nd.toNat:Int))/\0<=p.v/\p.v<(nd.toNat:Int):=λp hp=>by have:=hG.Z1 p hp;omega
 have h1:=bw3 (n:=nd.toNat) g (Ff hG.asc) hr
 have h2:(es.map λp=>g p.u.toNat p.v.toNat).sum=p9 nd.toNat λx=>p9 nd.toNat λy=>if (⟨(y:Int),(x:Int)⟩:Pt)∈es then g x y else 0:=by
  rw [h1,G6]
  exact B1 _ λy _=>B1 _ λx _=>by rw [hg x y]
 have h3:(p9 nd.toNat λx=>p9 nd.toNat λy=>if M3 nd es x y=true then g x y else 0)=(p9 nd.toNat λx=>p9 nd.toNat λy=>if (⟨(x:Int),(y:Int)⟩:Pt)∈es then g x y else 0)+p9 nd.toNat λx=>p9 nd.toNat λy=>if (⟨(y:Int),(x:Int)⟩:Pt)∈es then g x y else 0:=by
  rw [←F9]
  refine B1 _ λx _=>?_
  rw [←F9]
  refine B1 _ λy _=>?_
  have M:M3 nd es x y=true↔(⟨(x:Int),(y:Int)⟩:Pt)∈es\/(⟨(y:Int),(x:Int)⟩:Pt)∈es:=by rw [fq8 hG,Ki,Gp,Gp]
  by_cases q1:(⟨(x:Int),(y:Int)⟩:Pt)∈es
  ·have q2:¬(⟨(y:Int),(x:Int)⟩:Pt)∈es:=λq2=>by have:=hG.Z1 _ q1;have:=hG.Z1 _ q2;simp only at *; omega
   rw [B_ (M.2<|.inl q1),B_ q1,An q2];omega
  by_cases q2:(⟨(y:Int),(x:Int)⟩:Pt)∈es
  ·rw [B_ (M.2<|.inr q2),An q1,B_ q2];omega
  rw [An (λq=>(M.1 q).elim q1 q2),An q1,An q2];rfl
 rw [h3,←h1,←h2];omega
theorem P1(hG:s6 nd es)(M:x≠y):w∈j3 nd es x y↔w∈nbG nd es x/\w∈nbG nd es y:=by
 unfold j3;rw [An M,T1]
def ds7(nd:Int)(es:List Pt)(w:Int):Int:=(es.map λp=>ind (decide (w∈j3 nd es p.u p.v))).sum
theorem cj0(M:s6 nd es)(w:Nat):2*ds7 nd es (w:Int)=cc9 nd.toNat (M3 nd es) w:=by
 have h1:ds7 nd es (w:Int)=(es.map λp=>ind<|M3 nd es w p.u.toNat&&M3 nd es w p.v.toNat).sum:=by
  unfold ds7
  congr 1
  refine Ks λp hp=>?_
  have he:=M.Z1 p hp
  congr 1
  unfold M3
  rw [Gz he.1,Gz (show 0<=p.v by omega),Ka,Gp,P1 M om,Hc,Gp,Gp]
  exact and_congr ⟨λh=>ag9 M h,λh=>ag9 M h⟩ ⟨λh=>ag9 M h,λh=>ag9 M h⟩
 rw [h1,bw4 M (λx y=>ind<|M3 nd es w x&&M3 nd es w y) λx y=>by rw [Lj]]
 unfold cc9
 refine B1 _ λx _=>B1 _ λy _=>?_
 cases M3 nd es x y with
 |true=>rw [B_ rfl,Kl]
 |false=>rw [An dc,Jt];rfl
theorem bz8(hG:s6 nd es)(hx:p8 nd x)(hy:p8 nd y)(M:x≠y):((j3 nd es x y).length:Int)=coN nd.toNat (M3 nd es) x.toNat y.toNat:=by
 have hr:∀w∈j3 nd es x y,0<=w/\w<(nd.toNat:Int):=λw hw=>by
  have:=N3 hG ((P1 hG M).1 hw).1;omega
 unfold p8 at hx hy
 rw [cm6 (H4 nd es x y) hr]
 unfold coN
 rw [An om]
 refine B1 _ λj _=>?_
 congr 1
 unfold M3
 rw [Gz hx.1,Gz hy.1,Ka,Gp,P1 hG M,Hc,Gp,Gp]
theorem cj2(M:s6 nd es):p9 nd.toNat (cc9 nd.toNat (M3 nd es))=2*V7 nd es:=by
 have h1:V7 nd es=(es.map λp=>coN nd.toNat (M3 nd es) p.u.toNat p.v.toNat).sum:=by
  unfold V7
  congr 1
  refine Ks λp hp=>?_
  have he:=M.Z1 p hp
  exact bz8 M ⟨he.1,by omega⟩ ⟨by omega,he.2.2⟩ om
 rw [h1,bw4 M _ λx y=>aw9 (ag4 M) x y]
 unfold cc9
 rw [G6]
 refine B1 _ λx _=>?_
 rw [G6]
 refine B1 _ λy _=>?_
 cases hxy:M3 nd es x y with
 |true=>
  rw [B_ rfl]
  unfold coN
  rw [An (λq=>by rw [q,(ag4 M).irr] at hxy;cases hxy)]
  refine B1 _ λw _=>?_
  rw [Kl,(ag4 M).sym w x,(ag4 M).sym w y]
 |false=>rw [An dc];exact Du _ λw _=>by rw [Jt];rfl
theorem R5.tri(h:R5 nd es es' u v):V7 nd es'=V7 nd es+3*((j3 nd es u v).length:Int)/\∀w:Nat,ds7 nd es' (w:Int)=ds7 nd es (w:Int)+(if (w:Int)∈j3 nd es u v then 1 else 0)+((if (w:Int)=u then ((j3 nd es u v).length:Int) else 0)+if (w:Int)=v then ((j3 nd es u v).length:Int) else 0):=by
 have M:=h.ends
 unfold F5 at M
 have aa:u≠v:=M.2.2.2.2
 have hc:=bz8 h.ok (x:=u) (y:=v) ⟨M.1,M.2.2.1⟩ ⟨M.2.1,M.2.2.2.1⟩ aa
 have h1:=h.adj.fm1
 rw [cj2 h.ok,cj2 h.ok',←hc] at h1
 refine ⟨by omega,λw=>?_⟩
 have h2:=h.adj.tri w
 rw [←cj0 h.ok,←cj0 h.ok',←hc] at h2
 have h3:ind (M3 nd es u.toNat w&&M3 nd es v.toNat w)=if (w:Int)∈j3 nd es u v then 1 else 0:=by
  rw [←E4];congr 1
  unfold M3
  rw [Gz M.1,Gz M.2.1,Ka,Hc,Gp,Gp,Gp,P1 h.ok aa]
 rw [h3] at h2
 have e1:(w=u.toNat)↔((w:Int)=u):=by omega
 have e2:(w=v.toNat)↔((w:Int)=v):=by omega
 by_cases q1:(w:Int)=u
 ·rw [B_ (e1.2 q1)] at h2;rw [B_ q1]
  by_cases q2:(w:Int)=v
  ·omega
  rw [An (λq=>q2<|e2.1 q)] at h2;rw [An q2];omega
 rw [An (λq=>q1<|e1.1 q)] at h2;rw [An q1]
 by_cases q2:(w:Int)=v
 ·rw [B_ (e2.2 q2)] at h2;rw [B_ q2];omega
 rw [An (λq=>q2<|e2.1 q)] at h2;rw [An q2];omega
end
theorem bc4{α β:Type}(f:β->Int)(h:α->List β):∀l:List α,((l.flatMap h).map f).sum=(l.map λa=>((h a).map f).sum).sum
 |[]=>rfl
 |a::l=>by rw [List.flatMap_cons,Hr,List.sum_append,Hg,Jb,bc4 f h l]
section
variable {nd:Int}{es es':List Pt}{u v:Int}
def bd6(nd:Int)(es:List Pt)(u v a:Int):List Pt:=if a=v then [] else ((nbG nd es v).filter λb=>decide (b≠u/\b∈nbG nd es a)).map λb=>(⟨a,b⟩:Pt)
def p7(nd:Int)(es:List Pt)(u v:Int):List Pt:=(nbG nd es u).flatMap (bd6 nd es u v)
theorem dx1(hG:s6 nd es):∀y∈nbG nd es x,0<=y/\y<(nd.toNat:Int):=λy M=>by have:=(N3 hG M).2.1;omega
theorem ck6(hG:s6 nd es)(hu:p8 nd u)(hv:p8 nd v)(aa:v∉nbG nd es u)(f:Nat->Nat->Int) :
  ((p7 nd es u v).map λp=>f p.u.toNat p.v.toNat).sum=p9 nd.toNat λa=>p9 nd.toNat λb=>if ovr (M3 nd es) u.toNat v.toNat a b=true then f a b else 0:=by
 unfold p8 at hu hv
 unfold p7
 rw [bc4]
 have h1:(nbG nd es u).map (λa=>((bd6 nd es u v a).map λp=>f p.u.toNat p.v.toNat).sum)=(nbG nd es u).map λa=>(λa':Nat=>p9 nd.toNat λb=>if (M3 nd es v.toNat b&&M3 nd es a' b)=true then f a' b else 0) a.toNat:=Ks λa ha=>by
  have ab:=(N3 hG ha).2.1
  have ad:¬a=v:=λq=>aa (q▸ha)
  unfold bd6
  rw [An ad,List.map_map]
  have hn:=((ac1 nd es v).filter λb=>decide<|b≠u/\b∈nbG nd es a)
  have h2:=aq3 (n:=nd.toNat) (λb=>f a.toNat b) hn λb hb=>dx1 hG b (Gg.1 hb).1
  refine Eq.trans ?_<|h2.trans<|B1 _ λb hb=>?_
  ·rfl
  have M:((b:Int)∈(nbG nd es v).filter λb=>decide<|b≠u/\b∈nbG nd es a)↔(M3 nd es v.toNat b&&M3 nd es a.toNat b)=true:=by
   unfold M3
   rw [Gz hv.1,Gz ab.1,Hc,Gp,Gp,Gg,Gp]
   constructor
   ·rintro ⟨h3,_,h4⟩;exact ⟨h3,h4⟩
   rintro ⟨h3,h4⟩
   exact ⟨h3,λq=>aa<|ag9 hG<|q▸h3,h4⟩
  by_cases hq:(M3 nd es v.toNat b&&M3 nd es a.toNat b)=true
  ·rw [B_ (M.2 hq),B_ hq]
  rw [An (λq=>hq<|M.1 q),An hq]
 rw [h1]
 refine (aq3 (n:=nd.toNat) (λa':Nat=>p9 nd.toNat λb=>if (M3 nd es v.toNat b&&M3 nd es a' b)=true then f a' b else 0) (ac1 nd es u)<|dx1 hG).trans (B1 _ λa ha=>?_)
 have M:((a:Int)∈nbG nd es u)↔M3 nd es u.toNat a=true:=by
  unfold M3;rw [Gz hu.1,Gp]
 unfold ovr
 by_cases hq:M3 nd es u.toNat a=true
 ·rw [B_ (M.2 hq)]
  exact B1 _ λb hb=>by rw [hq,Kl]
 rw [An (λq=>hq<|M.1 q)]
 have hf:M3 nd es u.toNat a=false:=by cases e:M3 nd es u.toNat a with |false=>rfl|true=>exact absurd e hq
 exact (Du _ λb hb=>by rw [hf,Jt,Jt];rfl).symm
theorem dv9(hG:s6 nd es)(hu:p8 nd u)(hv:p8 nd v)(M:v∉nbG nd es u):((p7 nd es u v).length:Int)=gd0 nd.toNat (M3 nd es) u.toNat v.toNat:=by
 have h1:=ck6 hG hu hv M λ_ _=>1
 have e:∀l:List Pt,(l.map λ_=>(1:Int)).sum=(l.length:Int):=λl=>by
  induction l with
  |nil=>rfl
  |cons x l ih=>rw [Hg,Jb,ih,E_];omega
 rw [e] at h1
 rw [h1]
 unfold gd0 ind
 rfl
theorem br6(hG:s6 nd es){p:Pt}(h:p∈p7 nd es u v):p8 nd p.u/\p8 nd p.v:=by
 unfold p7 at h
 obtain ⟨a,ha,M⟩:=Kv.1 h
 unfold bd6 at M
 split at M
 ·cases M
 obtain ⟨b,hb,rfl⟩:=Gv.1 M
 exact ⟨(N3 hG ha).2.1,(N3 hG (Gg.1 hb).1).2.1⟩
theorem dv8(hG:s6 nd es)(hu:p8 nd u)(hv:p8 nd v)(M:v∉nbG nd es u)(w:Nat) :
  ((p7 nd es u v).map λp=>(((ind (decide<|u=(w:Int))+ind (decide<|v=(w:Int)))+ind (decide<|p.u=(w:Int)))+ind (decide<|p.v=(w:Int)))).sum=occ nd.toNat (M3 nd es) u.toNat v.toNat w:=by
 have h1:=ck6 hG hu hv M λa b=>(((ind (decide<|u.toNat=w)+ind (decide<|v.toNat=w))+ind (decide<|a=w))+ind (decide<|b=w))
 unfold occ
 rw [←h1]
 congr 1
 unfold p8 at hu hv
 refine Ks λp hp=>?_
 have hr:=br6 hG hp
 unfold p8 at hr
 have e1:decide (u=(w:Int))=decide (u.toNat=w):=by rw [Fs];omega
 have e2:decide (v=(w:Int))=decide (v.toNat=w):=by rw [Fs];omega
 have e3:decide (p.u=(w:Int))=decide (p.u.toNat=w):=by rw [Fs];omega
 have e4:decide (p.v=(w:Int))=decide (p.v.toNat=w):=by rw [Fs];omega
 rw [e1,e2,e3,e4]
def ah2(nd:Int)(es:List Pt)(w:Nat):Int:=ah4 nd.toNat (M3 nd es) w
def J7(nd:Int)(es:List Pt):Int:=bw8 nd.toNat (M3 nd es)
def F8(nd:Int)(es:List Pt):Int:=p9 nd.toNat λw=>prs ((nbG nd es (w:Int)).length:Int)
theorem cg1(M:s6 nd es)(x:Nat):fa2 nd.toNat (M3 nd es) x=((nbG nd es (x:Int)).length:Int):=by
 rw [cm6 (ac1 nd es (x:Int)) (dx1 M)];rfl
theorem R5.ft8(h:R5 nd es es' u v):J7 nd es'=J7 nd es+((p7 nd es u v).length:Int)/\(∀w:Nat,w<nd.toNat->ah2 nd es' w=ah2 nd es w+((p7 nd es u v).map λp=>(((ind (decide (u=(w:Int)))+ind (decide (v=(w:Int))))+ind (decide (p.u=(w:Int))))+ind (decide (p.v=(w:Int))))).sum)/\
  F8 nd es'=F8 nd es+(((nbG nd es u).length:Int)+((nbG nd es v).length:Int)):=by
 have M:=h.ends
 unfold F5 at M
 have hu:p8 nd u:=⟨M.1,M.2.2.1⟩
 have hv:p8 nd v:=⟨M.2.1,M.2.2.2.1⟩
 refine ⟨?_,λw hw=>?_,?_⟩
 ·unfold J7
  rw [h.adj.all,dv9 h.ok hu hv h.nuv.1]
 ·unfold ah2
  rw [h.adj.ft8 hw,dv8 h.ok hu hv h.nuv.1]
 have h1:=h.adj.fu8
 have e1:∀{es:List Pt},s6 nd es->F8 nd es=p9 nd.toNat λw=>prs (fa2 nd.toNat (M3 nd es) w):=λhG=>by
  unfold F8;exact B1 _ λw _=>by rw [cg1 hG]
 rw [e1 h.ok',e1 h.ok,h1,cg1 h.ok,cg1 h.ok,Gz hu.1,Gz hv.1]
theorem cj8(M:s6 nd es):p9 nd.toNat (ah2 nd es)=4*J7 nd es:=bd4 (ag4 M)
end
end Go.Sl
namespace Go.Sl
open Go.Proofs
set_option maxRecDepth 4000
variable{k:Int}
attribute [local irreducible] W G V D A j8 Eff
section
variable {nd:Int}{es:List Pt}
def ca0(nd:Int)(es:List Pt)(k:Int):List Int:=(j9 nd es).map λx=>min k x
theorem T9(nd:Int)(es:List Pt)(k:Int):(ca0 nd es k).length=(j9 nd es).length:=F_ ..
theorem G0(M:s6 nd es):((j9 nd es).length:Int)=nd:=by
 have hr:=M.rng
 have hl:=M.rows.len
 unfold j9
 rw [An (by rw [s4.2 M];decide),at0];omega
theorem bt2{u:Int}(M:0<=u)(h1:u<(j9 nd es).length):e_ (ca0 nd es k) u=min k (e_ (j9 nd es) u):=by
 obtain ⟨i,rfl⟩:=Hm M
 rw [Ct _ i (by rw [T9];omega),Ct _ i om]
 unfold ca0
 rw [Jj]
theorem dn5(M:s6 nd es):ca0 nd es 0=replicate (j9 nd es).length 0:=by
 have hl:=G0 M
 refine aj6 (by rw [T9,Fy]) λi hi=>?_
 rw [T9] at hi
 rw [bt2 om om,cp5 _ _ _ om om]
 have:=T6 M (u:=(i:Int)) om om
 omega
theorem fb5(M:s6 nd es)(h:1<=nd):ca0 nd es (nd - 1)=j9 nd es:=by
 have hl:=G0 M
 refine aj6 (T9 _ _ _) λi hi=>?_
 rw [T9] at hi
 rw [bt2 om om]
 have:=T6 M (u:=(i:Int)) om om
 omega
def cs7(l:List Int)(k:Int)(xs:List Int):List Int:=xs.foldl (λl v=>l.set v.toNat k) l
theorem bw9{l xs:List Int}{j:Nat}(h:j<xs.length):cs7 l k (xs.take (j+1))=(cs7 l k (xs.take j)).set (e_ xs j).toNat k:=by
 unfold cs7
 rw [Ca xs j h,Hd];rfl
theorem af5(k:Int):∀(xs l:List Int),(cs7 l k xs).length=l.length
 |[],l=>rfl
 |x::xs,l=>by
  show (cs7 (l.set x.toNat k) k xs).length=_
  rw [af5 k xs,Fo]
theorem ce2(k:Int):∀(xs l:List Int) (u:Int),(∀x∈xs,0<=x/\x<l.length)->0<=u->e_ (cs7 l k xs) u=if u∈xs then k else e_ l u
 |[],l,u,_,_=>rfl
 |x::xs,l,u,hx,hu=>by
  have M:=hx x A_
  show e_ (cs7 (l.set x.toNat k) k xs) u=_
  rw [ce2 k xs _ u (λy hy=>by rw [Fo];exact hx y<|C_ _ hy) hu,Ei _ _ _ _ M.1 hu M.2]
  by_cases h1:u∈xs
  ·rw [B_ h1,B_<|C_ _ h1]
  rw [An h1]
  by_cases h2:x=u
  ·subst h2;rw [B_ rfl,B_ A_]
  rw [An h2,An<|λh=>by rcases Fw.1 h with h|h;(· exact h2 h.symm);(· exact h1 h)]
theorem fb4(hG:s6 nd es)(hk:1<=k):cs7 (ca0 nd es (k - 1)) k (U9 nd es k)=ca0 nd es k:=by
 have hl:=G0 hG
 refine aj6 (by rw [af5,T9,T9]) λi hi=>?_
 rw [af5,T9] at hi
 rw [ce2 k _ _ _ (λx M=>by rw [T9];exact (ai9.1 M).1) om,bt2 om om,bt2 om om]
 by_cases h:(i:Int)∈U9 nd es k
 ·rw [B_ h]
  have:=(ai9.1 h).2
  omega
 rw [An h]
 have:¬k<=e_ (j9 nd es) i:=λh2=>h (ai9.2 ⟨⟨by omega,by omega⟩,h2⟩)
 omega
end
theorem dm7(nd:Int)(es:List Pt)(k:Int):(U9 nd es k).length<=64:=by
 unfold U9
 exact G_ (bw6 _ _)<|bz6 nd es
theorem cb9{κ:Ctx}{I:List Item}{nd:Int}{va:Value}{es:List Pt}(hl:Sl κ I va es)(hG:s6 nd es)(hb:es.length<=1000000)(h1:1<=nd):eu Tryz.prog κ 19 [.agg #[e7 nd,va]] I (λr J=>∃a c,r = .tuple #[.slice a (j9 nd es).length c,e7 0]/\J=vk 3 a c (j9 nd es)::I):=by
 have hr:=hG.rng
 have ap:=G0 hG
 have ai:(j9 nd es).length=nd.toNat:=by omega
 refine Ce1 Tryz.func19 C C ?_
 refine Ak<|Ge1 (Au (cs:=[_,_]) C C C) λb1=>Z ?_
 refine G.e (Ac c_ C C<|V2 (nd:=nd)<|A4 hl) ?_
 rintro _ _ ⟨_,_,⟨rfl,rfl⟩,rfl,rfl⟩
 refine Z ?_
 refine Am C (λc12=>?_)<|λc12=>Z ?_
 ·exact absurd (s4.2 hG) c12
 refine Ge2 (Dk (α:=Int) (n:=nd.toNat) Ab ef C C C om om dc C) λaa M=>Z ?_
 refine B9 (σ:=Int) (λs=>([(1,pt b1),(5,.slice aa (replicate nd.toNat (default:Int)).length M),(6,e7 s)]:Env)) (λs=>vc 3 (.slice aa (replicate nd.toNat (default:Int)).length M) ((ca0 nd es<|s - 1))::e8 b1 [e7 nd,va] 38::I) (λs=>(1<=s/\(s<=nd\/s=1))) (λs=>(nd - s).toNat) 1 (show (1<=(1:Int)/\((1:Int)<=nd\/(1:Int)=1)) from om) (cx2<|Aa Co Bb) (show Fit κ _ (vc 3 (.slice aa (replicate nd.toNat (default:Int)).length M) ((ca0 nd es<|(1) - 1))::e8 b1 [e7 nd,va] 38::I) from (by rw [show ca0 nd es (1 - 1)=replicate (j9 nd es).length 0 from dn5 hG,ai];exact Az)) ?_
 rintro q hp
 have hq:=hp
 have aq:=T9 nd es (q - 1)
 have ar:=dm7 nd es q
 have ao:∀x∈U9 nd es q,0<=x/\x<nd:=λx hx=>by have:=(ai9.1 hx).1;omega
 refine Z ?_
 refine Am C (λan=>Z ?_)<|λan=>Z ?_
 ·refine G.e (Ac c_ C C<|dr9 (nd:=nd) (lv:=q) (A4 hl) hG om) ?_
  rintro _ _ ⟨_,_,⟨ae,ah,rfl,rfl⟩,rfl,rfl⟩
  refine Z ?_
  refine B9 (σ:=Nat×(List Int)) (λs=>([(1,pt b1),(5,.slice aa (replicate nd.toNat (default:Int)).length M),(6,e7 q),(25,.slice ae (U9 nd es q).length ah),(26,e7<|(((U9 nd es q).length:Nat):Int)),(27,e7 ((s.1:Nat):Int))]:Env)) (λs=>vc 3 (.slice aa (replicate nd.toNat (default:Int)).length M) (s.2)::vk 3 ae ah (U9 nd es q)::e8 b1 [e7 nd,va] 38::I) (λs=>(s.1<=(U9 nd es q).length)/\(s.2=cs7 (ca0 nd es<|q - 1) q ((U9 nd es q).take s.1))) (λs=>(U9 nd es q).length - s.1) (0,ca0 nd es<|q - 1) (show ((0:Nat)<=(U9 nd es q).length)/\((ca0 nd es (q - 1):List Int)=cs7 (ca0 nd es<|q - 1) q ((U9 nd es q).take (0:Nat))) from ⟨om,rfl⟩) (cx4<|Aa C<|Aa Co Bb) (show Fit κ _ (vc 3 (.slice aa (replicate nd.toNat (default:Int)).length M) ((ca0 nd es<|q - 1))::vk 3 ae ah (U9 nd es q)::e8 b1 [e7 nd,va] 38::I) from Az) ?_
  rintro ⟨k,out⟩ hp
  dsimp only at hp ⊢
  obtain ⟨hk,ab⟩:=hp
  have av:out.length=(j9 nd es).length:=by rw [ab,af5,T9]
  have au:k<(U9 nd es q).length->0<=e_ (U9 nd es q) k/\e_ (U9 nd es q) k<nd:=λh=>ao _ (Bp om om)
  refine Z ?_
  refine Am C (λak=>Z ?_)<|λak=>Z ?_
  ·refine Ge0 (Cw (α:=Int) (xs:=out) (e:=3) (new:=q) ef C C C om om am) (Z ?_)
   exact Bt ((k+1),(List.set out (e_ (U9 nd es q) k).toNat (q)))<|by dsimp only;exact ⟨om,(by rw [bw9 om,←ab])⟩
  have aj:out=ca0 nd es (q+1 - 1):=by rw [ab,Fv om,fb4 hG hq.1,Int.add_sub_cancel]
  exact Bt ((q+1)) om (hI:=by (try dsimp only);exact (by rw [←aj];exact Az))
 have hE:ca0 nd es (q - 1)=j9 nd es:=by rw [show q - 1=nd - 1 by omega];exact fb5 hG h1
 have ad:(replicate nd.toNat (default:Int)).length=(j9 nd es).length:=by rw [Fy,ai]
 exact C3 C C C (vk 3 aa M (j9 nd es)::I) (by unfold vk;rw [←ad,←hE];exact Az) ⟨aa,M,by rw [←ad],rfl⟩
end Go.Sl
namespace Go.Sl
end Go.Sl
namespace Go.Sl
open Go.Proofs
set_option maxRecDepth 4000
end Go.Sl
namespace Go.Sl
open Go.Proofs
set_option maxRecDepth 4000
variable{xs:List Pt}{k:Nat}
attribute [local irreducible] W G V D A j8 Eff
section
variable {nd:Int}{es:List Pt}
theorem by5(M:s6 nd es){u v y:Int}(h:au1 nd es u v y)(hm:j4 u v∈es):y=((es.idxOf (j4 u v):Nat):Int):=by
 rcases h with ⟨_,j,rfl,hj,e⟩|⟨_,h|h⟩
 ·rw [←e,idx_eq M hj]
 ·exact absurd (s4.2 M) h
 exact absurd hm h
theorem cf4(p:Pt->Bool)(h:k<xs.length)(M:p (e_ xs k)=true):((((xs.take (k+1)).filter p).length:Nat):Int)=(((xs.take k).filter p).length:Nat)+1:=by
 rw [Ca _ k h,Gj,By,Hj,B_ M];simp
theorem bn0(p:Pt->Bool)(h:k<xs.length)(M:p (e_ xs k)=false):((((xs.take (k+1)).filter p).length:Nat):Int)=(((xs.take k).filter p).length:Nat):=by
 rw [Ca _ k h,Gj,By,Hj,M];simp
theorem dt9(M:s6 nd es){e:Pt}(he:e∈es):(ah9 nd es e).length<=nd.toNat - 1:=by
 unfold ah9;rw [F_];exact am5 M he
end
theorem cy4{κ:Ctx}{I:List Item}{nd:Int}{va:Value}{es:List Pt}(hl:Sl κ I va es)(hG:s6 nd es)(i:Int)(h0:0<=i)(h1:i<es.length)(hb:es.length<=1000000):eu Tryz.prog κ 142 [.agg #[e7 nd,va],e7 i] I (λr J=>∃a c,r = .slice a (ah9 nd es (e_ es i)).length c/\J=vk 200 a c (ah9 nd es (e_ es i))::I):=by
 have aq:=hG.rng
 have he:=Bp (xs:=es) h0 h1
 have ar:=am5 hG he
 refine Ce2 Tryz.func142 C C ?_
 refine Ak<|Ge1 (Au (cs:=[_,_]) C C C) λb1=>Z ?_
 refine Ge1 (Aj s8 C) λb2=>Ge0 (Cs s8)<|Z ?_
 refine Gc2 (Ac c_ C C<|ag7 (nd:=nd) (A4 hl) ((e_ es i).u) ((e_ es i).v) om) λak ao=>Z ?_
 refine Dh (σ:=Nat×(Option Addr)×Nat×(List Pt)) (λs=>[(5,.slice s.2.1 s.2.2.2.length s.2.2.1),(21,e7 ((s.1:Nat):Int))]) (λs=>[vk 200 s.2.1 s.2.2.1 s.2.2.2]) (λs=>(s.1<=(j3 nd es (e_ es i).u (e_ es i).v).length)/\(s.2.2.2=((j3 nd es (e_ es i).u (e_ es i).v).take s.1).map (λw=>(⟨((es.idxOf (j4 (e_ es i).u w):Nat):Int),((es.idxOf (j4 (e_ es i).v w):Nat):Int)⟩:Pt)))) (λs=>(j3 nd es (e_ es i).u (e_ es i).v).length - s.1) (0,none,0,[]) (show ((0:Nat)<=(j3 nd es (e_ es i).u (e_ es i).v).length)/\(([]:List Pt)=((j3 nd es (e_ es i).u (e_ es i).v).take (0:Nat)).map (λw=>(⟨((es.idxOf (j4 (e_ es i).u w):Nat):Int),((es.idxOf (j4 (e_ es i).v w):Nat):Int)⟩:Pt))) from ⟨om,rfl⟩) (hI:=(B7 _ _)) ?_
 rintro ⟨k,oa,oc,out⟩ hp
 dsimp only at hp ⊢
 obtain ⟨hk,ho⟩:=hp
 have au:out.length=k:=by rw [ho,F_,Fp];omega
 have ae:k<(j3 nd es (e_ es i).u (e_ es i).v).length->j4 (e_ es i).u (e_ (j3 nd es (e_ es i).u (e_ es i).v) (k:Int))∈es/\j4 (e_ es i).v (e_ (j3 nd es (e_ es i).u (e_ es i).v) (k:Int))∈es:=λh=>am4 hG he (Bp om om)
 refine Z ?_
 refine Am C (λap=>Z ?_)<|λap=>Z ?_
 ·refine Ba mixed (Bx (vk 3 ak ao (j3 nd es ((e_ es i).u)<|(e_ es i).v)::e8 b2 [e7 ((e_ es i).u),e7<|(e_ es i).v] 105::e8 b1 [e7 nd,va] 38::I) 15<|Z ?_)
  refine Ds1 5<|Se C (Ac c_ C C<|ax5 (nd:=nd) (A4 hl) ((e_ es i).u)<|e_ (j3 nd es ((e_ es i).u)<|(e_ es i).v) (k:Int)) ?_
  rintro _ _ ⟨_,_,⟨aa,rfl,ab,rfl⟩,rfl,rfl⟩
  refine ⟨Ai,?_⟩
  have ad:=by5 hG ab (ae om).1
  refine Ds1 10<|Se C (Ac c_ C C<|ax5 (nd:=nd) (A4 hl) ((e_ es i).v)<|e_ (j3 nd es ((e_ es i).u)<|(e_ es i).v) (k:Int)) ?_
  rintro _ _ ⟨_,_,⟨M,rfl,ai,rfl⟩,rfl,rfl⟩
  refine ⟨Ai,?_⟩
  have ah:=by5 hG ai (ae om).2
  refine Dr 11 C (Eg (cells:=[_,_]) L8 B8 ef C C)<|Ds1 12<|Se1 C (B2 (α:=Pt) (cs:=[_,_]) (xs:=[⟨aa,M⟩]) Bw L8 C C dc dc C C C C) λav=>?_
  refine Ds1 13<|Se2 C (Br (α:=Pt) (e:=200) (xs:=out) (ys:=([⟨aa,M⟩]:List Pt)) Bw L8 C C C mm A5 lcn dc C<|λ_ _=>am) λan aj=>Z ?_
  exact Bt ((k+1),(an),(aj),(out++([⟨aa,M⟩]:List Pt)))<|by dsimp only;exact ⟨om,(by rw [Ca _ k om,Hr,←ho,ad,ah];rfl)⟩
 have hX:(ah9 nd es<|e_ es i)=out:=by rw [ho,Fv om];rfl
 exact Al C C (vk 200 oa oc (ah9 nd es<|e_ es i)::I) (by unfold vk;rw [hX];exact Ai) ⟨oa,oc,by rw [hX],rfl⟩
end Go.Sl
