/- A part of the proofs of statements of this seat: contracts of functions, and the plain laws that they lean on. No conditions. -/
import Derived.Test.YtoagcglbkeomgaaGreatDoorE15
set_option linter.unusedVariables false
set_option linter.unusedSimpArgs false
set_option linter.unusedSectionVars false
open List (replicate)
set_option maxHeartbeats 4000000
namespace Go.Sl
open Go.Proofs
set_option maxRecDepth 4000
variable{A:List Item}{ad:Option Addr}{c k:Nat}{xs:List Int}{i j nd:Int}{x:Item}{es:List Pt}
variable {κ:Ctx}{I:List Item}
attribute [local irreducible] W G V D A j7 Eff
theorem X6{κ:Ctx}{B:List Item}(h:B.Sublist A:=by repeat (first|exact Jp _|exact Gn _ _|apply List.Sublist.cons_cons|apply List.Sublist.cons)):Fit κ A B:=C1 h
theorem At.ow{I:List Item}:∀{rs:List (F9 Int)} {i:Int},0<=i->i<rs.length->
  At (ao8 3 rs++I) (vc 3 (.slice (e_ rs i).a (e_ rs i).xs.length (e_ rs i).c) (e_ rs i).xs) (vc 3 (.slice ad xs.length c) xs) (ao8 3 (List.set rs i.toNat ⟨ad,c,xs⟩)++I):=fun {rs} {i} M h=>by
 obtain ⟨k,rfl⟩:∃k:Nat,i=(k:Int):=⟨i.toNat,by omega⟩
 rw [Ly]
 clear M
 induction rs generalizing k with
 |nil=>simp at h;omega
 |cons r rs ih=>
  cases k with
  |zero=>exact At.head _ _ _
  |succ k=>exact At.tail _ (ih k<|by simp at h;omega)
theorem fi0{I:List Item}{rs:List (F9 Int)}(M:0<=i)(h:i<rs.length):vk 3 (e_ rs i).a (e_ rs i).c (e_ rs i).xs∈ao8 3 rs++I:=(At.ow (ad:=none) (c:=0) (xs:=[]) M h).mem
theorem fm0{rs:List (F9 Int)}(M:0<=i)(h:i<rs.length):Sl κ (ao8 3 rs++I) (.slice (e_ rs i).a (e_ rs i).xs.length (e_ rs i).c) (e_ rs i).xs:=Cy (fi0 M h)
theorem At.ow2{I:List Item}{rs:List (F9 Int)}{x:F9 Int}(h0:0<=i)(h:i<rs.length)(j0:0<=j)(hj:j<rs.length)(M:j≠i) :
  At (ao8 3 (List.set rs j.toNat x)++I) (vc 3 (.slice (e_ rs i).a (e_ rs i).xs.length (e_ rs i).c) (e_ rs i).xs) (vc 3 (.slice ad xs.length c) xs) (ao8 3 (List.set (List.set rs j.toNat x) i.toNat ⟨ad,c,xs⟩)++I):=by
 have h1:=At.ow (I:=I) (ad:=ad) (c:=c) (xs:=xs) (rs:=List.set rs j.toNat x) (i:=i) h0 (by rw [Fq];exact h)
 rw [Eh _ _ _ _ j0 h0 hj,An M] at h1
 exact h1
theorem Fit.fx8:∀(rs:List (F9 Int)),(∀r∈rs,r=default)->Fit κ I (ao8 3 rs++I)
 |[],_=>Dd _
 |r::rs,h=>by
  refine A7 (Fit.fx8 rs λx M=>h x<|C_ _ M) ?_
  show Fit κ _ (vk 3 r.a r.c r.xs::_)
  rw [h r A_]
  exact B6 _ _
theorem Atp{I I':List Item}{y:Item}(h:At I x y I':=by repeat (first|exact At.ow asm asm|exact At.ow2 asm asm asm asm asm|apply At.tail)):At I x y I':=h
theorem fm1{I:List Item}{rs:List (F9 Int)}{x:F9 Int}(h0:0<=i)(h:i<rs.length)(j0:0<=j)(hj:j<rs.length)(M:j≠i):vk 3 (e_ rs i).a (e_ rs i).c (e_ rs i).xs∈ao8 3 (List.set rs j.toNat x)++I:=(At.ow2 (ad:=none) (c:=0) (xs:=[]) h0 h j0 hj M).mem
theorem Mmp{I:List Item}(h:x∈I:=by repeat (first|exact fi0 asm asm|exact fm1 asm asm asm asm asm|apply C_)):x∈I:=h
structure bj1 (nd:Int) (es:List Pt) (rs:List (F9 Int)):Prop where
 len:(rs.length:Int)=nd
 row:∀i:Int,0<=i->i<nd->(e_ rs i).xs=nbL es i
theorem bj1.start(h:0<=nd):bj1 nd [] (replicate nd.toNat (default:F9 Int)):=⟨by rw [F_];omega,λi M h1=>by rw [cp5 _ _ _ M om];rfl⟩
theorem bj1.push{rs:List (F9 Int)}(h:bj1 nd (es.take k) rs)(hk:k<es.length)(he:0<=(e_ es k).u/\(e_ es k).u<(e_ es k).v/\(e_ es k).v<nd)(a b:Option Addr)(c d:Nat) :
  bj1 nd (es.take<|k+1) (List.set (List.set rs (e_ es k).u.toNat ⟨a,c,(e_ rs (e_ es k).u).xs++[(e_ es k).v]⟩) (e_ es k).v.toNat ⟨b,d,(e_ rs (e_ es k).v).xs++[(e_ es k).u]⟩):=by
 have hl:=h.len
 refine ⟨by rw [Fq,Fq];exact hl,λi M h1=>?_⟩
 rw [ar0 hk,Eh _ _ _ _ om M<|by rw [Fq];omega,Eh _ _ _ _ om M om]
 by_cases e1:(e_ es k).v=i
 ·rw [B_ e1,An om,B_ e1]
  show (e_ rs (e_ es k).v).xs++_=_
  rw [e1,h.row i M h1];rfl
 rw [An e1,An e1]
 by_cases e2:(e_ es k).u=i
 ·rw [B_ e2,B_ e2]
  show (e_ rs (e_ es k).u).xs++_=_
  rw [e2,h.row i M h1,Gt]
 rw [An e2,An e2,h.row i M h1];simp
theorem eu.gh0{κ:Ctx}{I:List Item}{rs:List (F9 Int)}{x:F9 Int}(hx:e_ rs i=x)(h0:0<=i)(h:i<rs.length)(ab:x.xs.length<4611686018427387904):eu Tryz.prog κ 163 [.slice x.a x.xs.length x.c] (A++(ao8 3 rs++I)) λr J=>∃R,r = .tuple #[]/\(vc 3 (.slice x.a x.xs.length x.c) (V6 x.xs)::R).Perm (A++(ao8 3 (List.set rs i.toNat ⟨x.a,x.c,V6 x.xs⟩)++I))/\J=vc 3 (.slice x.a x.xs.length x.c) (V6 x.xs)::R:=by
 have M:=At.ow (I:=I) (ad:=x.a) (c:=x.c) (xs:=V6 x.xs) (rs:=rs) (i:=i) h0 h
 rw [hx] at M
 obtain ⟨R,h1,h2⟩:=M.perm
 rw [ad3] at h2
 have hp:(A++(ao8 3 rs++I)).Perm (vk 3 x.a x.c x.xs::(A++R)):=(List.Perm.append_left A h1).trans Md
 have aa:(vc 3 (.slice x.a x.xs.length x.c) (V6 x.xs)::(A++R)).Perm (A++(ao8 3 (List.set rs i.toNat ⟨x.a,x.c,V6 x.xs⟩)++I)):=(Md.symm).trans (List.Perm.append_left A h2.symm)
 exact Cl (Cj hp)<|(cj6 (e:=3) ab).mono λr J ⟨e1,e2⟩=>⟨A++R,e1,aa,e2⟩
theorem bx5{nd:Int}:∀{es:List Pt},es.Nodup->(∀e∈es,e.u<e.v)->∀v,(nbL es v).Nodup
  |[],_,_,v=>List.nodup_nil
  |e::es,hn,h,v=>by
    obtain ⟨h1,h2⟩:=Hz.1 hn
    have ih:=bx5 (nd:=nd) h2 (λx hx=>h x<|C_ _ hx) v
    have he:=h e A_
    have e1:nbL (e::es) v=((if e.u=v then [e.v] else [])++(if e.v=v then [e.u] else []))++nbL es v:=rfl
    rw [e1]
    by_cases a:e.u=v
    · rw [B_ a,An om,Gt]
      refine Hz.2 ⟨λM=>?_,ih⟩
      rcases an7.1 M with hh|hh
      · exact h1 (by have:e=⟨v,e.v⟩:=by rw [Dc];exact ⟨a,rfl⟩
                     rw [this];exact hh)
      · have:=h _ (C_ _ hh);simp only at this;omega
    · rw [An a]
      by_cases b:e.v=v
      · rw [B_ b,Ko]
        refine Hz.2 ⟨λM=>?_,ih⟩
        rcases an7.1 M with hh|hh
        · have:=h _ (C_ _ hh);simp only at this;omega
        · exact h1 (by have:e=⟨e.u,v⟩:=by rw [Dc];exact ⟨rfl,b⟩
                       rw [this];exact hh)
      · rw [An b];exact ih
theorem dc5(M:s8 nd es)(v:Int):V6 (nbL es v)=nbG nd es v:=by
 have hn:=bx5 (nd:=nd) (Fg M.asc) (λe he=>(M.aa9 e he).2.1) v
 unfold nbG
 rw [An (by rw [s4.2 M];decide)]
 refine ar8.uniq ?_ (T0 _) λx=>by rw [df9,af6]
 have h1:=bc1 (nbL es v)
 have h2:(V6<|nbL es v).Nodup:=(ad2 _).nodup_iff.2 hn
 exact (h1.and h2).imp λh=>by have:=h.1;have:=h.2;omega
structure cq6 (nd:Int) (es:List Pt) (rs rs2:List (F9 Int)):Prop where
 len:(rs.length:Int)=nd/\(rs2.length:Int)=nd
 row:∀i:Int,0<=i->i<nd->e_ rs2 i=⟨(e_ rs i).a,(e_ rs i).c,nbG nd es i⟩/\(e_ rs i).xs.length=(nbG nd es i).length
structure bj0 (nd:Int) (rs rs2:List (F9 Int)) (k:Nat):Prop where
 len:rs2.length=rs.length
 done:∀i:Int,0<=i->i<(k:Int)->e_ rs2 i=⟨(e_ rs i).a,(e_ rs i).c,V6 (e_ rs i).xs⟩
 rest:∀i:Int,(k:Int)<=i->i<rs.length->e_ rs2 i=e_ rs i
theorem bj0.start(nd:Int)(rs:List (F9 Int)):bj0 nd rs rs 0:=⟨rfl,λi M h1=>by omega,λi _ _=>rfl⟩
theorem bj0.step{rs M:List (F9 Int)}(h:bj0 nd rs M k)(hk:k<rs.length):bj0 nd rs (List.set M ((k:Int)).toNat ⟨(e_ rs k).a,(e_ rs k).c,V6 (e_ rs k).xs⟩) (k+1):=by
 have hl:=h.len
 refine ⟨by rw [Fq];exact hl,λi h0 h1=>?_,λi h0 h1=>?_⟩
 ·rw [Eh _ _ _ _ om h0 om]
  by_cases e:(k:Int)=i
  ·rw [B_ e,e]
  rw [An e];exact h.done i h0 om
 rw [Eh _ _ _ _ om om om,An om];exact h.rest i om h1
theorem bj0.all{rs M:List (F9 Int)}(hG:s8 nd es)(h:bj0 nd rs M k)(hR:bj1 nd es rs)(hk:k=rs.length):cq6 nd es rs M:=by
 have hl:=h.len
 have hr:=hR.len
 refine ⟨⟨hr,by omega⟩,λi h0 h1=>?_⟩
 have e:=hR.row i h0 h1
 rw [h.done i h0 om,e,dc5 hG]
 refine ⟨rfl,?_⟩
 rw [←dc5 hG,ad3]
theorem cq6.held{rs M:List (F9 Int)}(h:cq6 nd es rs M)(h0:0<=i)(h1:i<nd):Sl κ (ao8 3 M++I) (.slice (e_ rs i).a (e_ rs i).xs.length (e_ rs i).c) (nbG nd es i):=by
 obtain ⟨e,el⟩:=h.row i h0 h1
 have hh:=fm0 (κ:=κ) (I:=I) (rs:=M) (i:=i) h0 (by have:=h.len;omega)
 rw [e] at hh
 rw [el];exact hh
theorem ta9{p:Prop}(h:p:=by first|omega|(rw [Fq];omega)):p:=h
theorem cq5{va:Value}(hl:Sl κ I va es)(hG:s8 nd es):eu Tryz.prog κ 132 [.agg #[e7 nd,va]] I (λr J=>∃a c rs ad,r = .slice a (rs:List (F9 Int)).length c/\cq6 nd es rs ad/\J=vk 22 a c rs::(ao8 3 ad++I)):=by
 refine Bw hl.le λba=>?_
 have bc:=hG.rng
 have bi:=q9 hG
 refine Ce1 Tryz.func132 C C ?_
 refine Am<|Ge1 (Au (cs:=[_,_]) C C C) λb1=>Z ?_
 refine Ge2 (Dl (α:=(F9 Int)) (n:=nd.toNat) Cq W4 C C C om om dc C) λaa ab=>?_
 refine Ga C ?_
 have bb:(replicate nd.toNat (default:F9 Int)).length=nd.toNat:=F_
 refine G.pull (p:=0<(replicate nd.toNat (default:F9 Int)).length->aa≠none) (vc.isSome mm) λM=>Z ?_
 refine B9 (σ:=Nat×(List<|F9 Int)) (λs=>([(3,.slice aa (replicate nd.toNat (default:(F9 Int))).length ab),(12,va),(13,e7 ((es.length:Nat):Int)),(14,e7 ((s.1:Nat):Int))]:Env)) (λs=>vc 22 (.slice aa (replicate nd.toNat (default:(F9 Int))).length ab) (s.2)::e8 b1 [e7 nd,va] 38::(ao8 3 s.2++I)) (λs=>(s.1<=es.length)/\(bj1 nd (es.take s.1) s.2)) (λs=>es.length - s.1) (0,replicate nd.toNat (default:(F9 Int))) (show ((0:Nat)<=es.length)/\(bj1 nd (es.take (0:Nat)) (replicate nd.toNat (default:(F9 Int)):List (F9 Int))) from ⟨om,(bj1.start om)⟩) (cx2<|Aa C<|Aa Cn Bb) (show Fit κ _ (vk 22 aa ab (replicate nd.toNat (default:(F9 Int)))::e8 b1 [e7 nd,va] 38::(ao8 3 (replicate nd.toNat (default:(F9 Int)))++I)) from (A7 (show Fit κ _ (ao8 3 (replicate nd.toNat (default:(F9 Int)))++(vk 22 aa ab (replicate nd.toNat (default:(F9 Int)))::e8 b1 [e7 nd,va] 38::I)) from A7 Az (Fit.fx8 _<|λr hr=>Kg hr))<|Cj<|C0 (A:=ao8 3 (replicate nd.toNat (default:(F9 Int)))) (L:=[vk 22 aa ab (replicate nd.toNat (default:(F9 Int))),e8 b1 [e7 nd,va] 38]) (T:=I))) ?_
 rintro ⟨k,rs⟩ hp
 dsimp only at hp ⊢
 obtain ⟨hk,hR⟩:=hp
 have a3:=λh:k<es.length=>hG.at h
 have bj:=hR.len
 refine Z ?_
 refine Al C (λa4=>Z ?_)<|λa4=>Z ?_
 ·refine Ge1 (Aj s9 C) λb4=>Ge0 (Cr s9) ?_
  obtain ⟨bh,bg,bf⟩:=a3 om
  have bq:((e_ es k).u)<rs.length:=by omega
  have bo:0<=((e_ es k).v):=by omega
  have br:((e_ es k).v)<rs.length:=by omega
  have a7:((e_ es k).u)≠((e_ es k).v):=by omega
  have ax:(((e_ rs<|(e_ es k).u).xs).length+([((e_ es k).v)]:List Int).length)*8<=140737488355328:=by rw [hR.row _ om om];have h2:=bq7 (es.take k) ((e_ es k).u);simp only [Fr,E_,Fw] at h2 ⊢; omega
  have av:(((e_ rs<|(e_ es k).v).xs).length+([((e_ es k).u)]:List Int).length)*8<=140737488355328:=by rw [hR.row _ om om];have h3:=bq7 (es.take k) ((e_ es k).v);simp only [Fr,E_,Fw] at h3 ⊢; omega
  refine Ar<|A9 mixed<|Bx (e8 b4 [e7 ((e_ es k).u),e7<|(e_ es k).v] 105::I) 28<|Cd 0 C kr kr kr C kr (λ_ _ _ _ h=>h) (Ap C) C C X6 (Aq C) ?_
  refine Cd 1 C kr kr kr C kr (λ_ _ _ _ h=>h) (Ap C) C C X6 (Af N8 C) ?_
  refine Cd 2 C kr kr kr C kr (λ_ _ _ _ h=>h) (Ap C) C C X6 (Bf ef) ?_
  refine Cd 3 C kr kr kr C kr (λ_ _ _ _ h=>h) (Ap C) C C X6 (Aq C) ?_
  refine Cd 4 C kr kr kr C kr (λ_ _ _ _ h=>h) (Ap C) C C X6 (Af N7 C) ?_
  refine Cd 5 C kr kr kr C kr (λ_ _ _ _ h=>h) (Ap C) C C X6 (Bf ef) ?_
  refine Cd 6 C kr kr kr C kr (λ_ _ _ _ h=>h) (Ap C) C C X6 (Aq C) ?_
  refine Cd 7 C kr kr kr C kr (λ_ _ _ _ h=>h) (Ap C) C C X6 (Af N8 C) ?_
  refine Cd 8 C kr kr kr C kr (λ_ _ _ _ h=>h) (Ap C) C C X6 (Bf ef) ?_
  refine Cd 9 C kr kr kr C kr (λ_ _ _ _ h=>h) (Ap C) C C X6 (j7.idxs (F9 Int) Cq W4 C C (M om) om om) ?_
  refine Cd 11 C kr kr kr C kr (λ_ _ _ _ h=>h) (Ap C) C C X6 (Af N7 C) ?_
  refine Cd 12 C kr kr kr C kr (λ_ _ _ _ h=>h) (Ap C) C C X6 (Bf ef) ?_
  refine Cd 15 C kr kr kr C kr (λ_ _ _ _ h=>h) (Ap C) C C X6 (Aq C) ?_
  refine Cd 16 C kr kr kr C kr (λ_ _ _ _ h=>h) (Ap C) C C X6 (Af N7 C) ?_
  refine Cd 17 C kr kr kr C kr (λ_ _ _ _ h=>h) (Ap C) C C X6 (Bf ef) ?_
  refine Cd 18 C kr kr kr C kr (λ_ _ _ _ h=>h) (Ap C) C C X6 (j7.idxs (F9 Int) Cq W4 C C (M om) om om) ?_
  refine Cd 20 C kr kr kr C kr (λ_ _ _ _ h=>h) (Ap C) C C X6 (Af N8 C) ?_
  refine Cd 21 C kr kr kr C kr (λ_ _ _ _ h=>h) (Ap C) C C X6 (Bf ef) ?_
  refine D.two (e8 b4 [e7 ((e_ es k).u),e7<|(e_ es k).v] 105::vc 22 (.slice aa (replicate nd.toNat (default:(F9 Int))).length ab) (rs)::I) 25 X6 ?_
  refine Ff 10 C kr kr kr C kr (λ_ _ _ _ h=>h) (Ap C) C C X6 (Cc (α:=(F9 Int)) (xs:=rs) (u:= .slice (e_ rs<|(e_ es k).u).a (e_ rs<|(e_ es k).u).xs.length (e_ rs<|(e_ es k).u).c) W4 C A5 om om C) ?_
  refine Ff 19 C kr kr kr C kr (λ_ _ _ _ h=>h) (Ap C) C C X6 (Cc (α:=(F9 Int)) (xs:=rs) (u:= .slice (e_ rs<|(e_ es k).v).a (e_ rs<|(e_ es k).v).xs.length (e_ rs<|(e_ es k).v).c) W4 C A5 om om C) ?_
  refine E1 (rs:=[13,22]) kr C C<|Ei ?_<|Do ?_
  ·refine Dt C (Ap C) (B0 (α:=Int) (cs:=[_]) (xs:=[(e_ es k).v]) Ab ef C C dc dc C C C C) ?_
   rintro _ _ ⟨bp,rfl,rfl⟩
   refine ⟨X6,?_⟩
   refine E1 (rs:=[14,22]) kr C C<|Ei ?_<|Do ?_
   ·refine Dt C (Ap C) (Bp (α:=Int) (e:=3) (xs:=(e_ rs<|(e_ es k).u).xs) (ys:=([(e_ es k).v]:List Int)) Ab ef C C C Mmp A5 ax dc C<|λ_ _=>Atp) ?_
    rintro _ _ ⟨aw,az,rfl,rfl⟩
    refine ⟨X6,?_⟩
    refine E1 (rs:=[22]) kr C C<|Do ?_
    refine Dt C (Ap C) (B0 (α:=Int) (cs:=[_]) (xs:=[(e_ es k).u]) Ab ef C C dc dc C C C C) ?_
    rintro _ _ ⟨bm,rfl,rfl⟩
    refine ⟨X6,?_⟩
    refine E1 (rs:=[23]) kr C C<|Do ?_
    refine Dt C (Ap C) (Bp (α:=Int) (e:=3) (xs:=(e_ rs<|(e_ es k).v).xs) (ys:=([(e_ es k).u]:List Int)) Ab ef C C C Mmp A5 av dc C<|λ_ _=>Atp) ?_
    rintro _ _ ⟨a0,ao,rfl,rfl⟩
    refine ⟨X6,?_⟩
    refine Ff 24 C kr kr kr C kr (λ_ _ _ _ h=>h) (Ap C) C C X6 (j7.idxs (F9 Int) Cq W4 C C (M om) om om) ?_
    refine D2.stop kr ?_
    refine Ds1 25<|Se C (Cv (α:=(F9 Int)) (xs:=rs) (e:=22) (new:=(⟨aw,az,((e_ rs<|(e_ es k).u).xs++([(e_ es k).v]:List Int))⟩:F9 Int)) W4 C C C om ta9 am) ?_
    rintro _ _ ⟨rfl,rfl⟩
    refine ⟨X6,?_⟩
    refine Cd 26 C kr kr kr C kr (λ_ _ _ _ h=>h) (Ap C) C C X6 (j7.idxs (F9 Int) Cq W4 C C (M om) om om) ?_
    refine Ds1 27<|Se C (Cv (α:=(F9 Int)) (xs:=List.set rs ((e_ es k).u).toNat (⟨aw,az,((e_ rs<|(e_ es k).u).xs++([(e_ es k).v]:List Int))⟩:F9 Int)) (e:=22) (new:=(⟨a0,ao,((e_ rs<|(e_ es k).v).xs++([(e_ es k).u]:List Int))⟩:F9 Int)) W4 C C C om ta9 am) ?_
    rintro _ _ ⟨rfl,rfl⟩
    refine ⟨X6,?_⟩
    refine Z ?_
    exact Bt ((k+1),(List.set (List.set rs ((e_ es k).u).toNat (⟨aw,az,((e_ rs<|(e_ es k).u).xs++([(e_ es k).v]:List Int))⟩:F9 Int)) ((e_ es k).v).toNat (⟨a0,ao,((e_ rs<|(e_ es k).v).xs++([(e_ es k).u]:List Int))⟩:F9 Int)))<|by dsimp only;exact ⟨om,(hR.push om om _ _ _ _)⟩
   refine Dt C (Ap C) (B0 (α:=Int) (cs:=[_]) (xs:=[(e_ es k).u]) Ab ef C C dc dc C C C C) ?_
   rintro _ _ ⟨a9,rfl,rfl⟩
   refine ⟨X6,?_⟩
   refine E1 (rs:=[14]) kr C C<|Do ?_
   refine Dt C (Ap C) (Bp (α:=Int) (e:=3) (xs:=(e_ rs<|(e_ es k).u).xs) (ys:=([(e_ es k).v]:List Int)) Ab ef C C C Mmp A5 ax dc C<|λ_ _=>Atp) ?_
   rintro _ _ ⟨ae,aj,rfl,rfl⟩
   refine ⟨X6,?_⟩
   refine E1 (rs:=[23]) kr C C<|Do ?_
   refine Dt C (Ap C) (Bp (α:=Int) (e:=3) (xs:=(e_ rs<|(e_ es k).v).xs) (ys:=([(e_ es k).u]:List Int)) Ab ef C C C Mmp A5 av dc C<|λ_ _=>Atp) ?_
   rintro _ _ ⟨ar,ap,rfl,rfl⟩
   refine ⟨X6,?_⟩
   refine Ff 24 C kr kr kr C kr (λ_ _ _ _ h=>h) (Ap C) C C X6 (j7.idxs (F9 Int) Cq W4 C C (M om) om om) ?_
   refine D2.stop kr ?_
   refine Ds1 25<|Se C (Cv (α:=(F9 Int)) (xs:=rs) (e:=22) (new:=(⟨ae,aj,((e_ rs<|(e_ es k).u).xs++([(e_ es k).v]:List Int))⟩:F9 Int)) W4 C C C om ta9 am) ?_
   rintro _ _ ⟨rfl,rfl⟩
   refine ⟨X6,?_⟩
   refine Cd 26 C kr kr kr C kr (λ_ _ _ _ h=>h) (Ap C) C C X6 (j7.idxs (F9 Int) Cq W4 C C (M om) om om) ?_
   refine Ds1 27<|Se C (Cv (α:=(F9 Int)) (xs:=List.set rs ((e_ es k).u).toNat (⟨ae,aj,((e_ rs<|(e_ es k).u).xs++([(e_ es k).v]:List Int))⟩:F9 Int)) (e:=22) (new:=(⟨ar,ap,((e_ rs<|(e_ es k).v).xs++([(e_ es k).u]:List Int))⟩:F9 Int)) W4 C C C om ta9 am) ?_
   rintro _ _ ⟨rfl,rfl⟩
   refine ⟨X6,?_⟩
   refine Z ?_
   exact Bt ((k+1),(List.set (List.set rs ((e_ es k).u).toNat (⟨ae,aj,((e_ rs<|(e_ es k).u).xs++([(e_ es k).v]:List Int))⟩:F9 Int)) ((e_ es k).v).toNat (⟨ar,ap,((e_ rs<|(e_ es k).v).xs++([(e_ es k).u]:List Int))⟩:F9 Int)))<|by dsimp only;exact ⟨om,(hR.push om om _ _ _ _)⟩
  refine Dt C (Ap C) (B0 (α:=Int) (cs:=[_]) (xs:=[(e_ es k).u]) Ab ef C C dc dc C C C C) ?_
  rintro _ _ ⟨a8,rfl,rfl⟩
  refine ⟨X6,?_⟩
  refine E1 (rs:=[13]) kr C C<|Do ?_
  refine Dt C (Ap C) (B0 (α:=Int) (cs:=[_]) (xs:=[(e_ es k).v]) Ab ef C C dc dc C C C C) ?_
  rintro _ _ ⟨be,rfl,rfl⟩
  refine ⟨X6,?_⟩
  refine E1 (rs:=[14]) kr C C<|Do ?_
  refine Dt C (Ap C) (Bp (α:=Int) (e:=3) (xs:=(e_ rs<|(e_ es k).u).xs) (ys:=([(e_ es k).v]:List Int)) Ab ef C C C Mmp A5 ax dc C<|λ_ _=>Atp) ?_
  rintro _ _ ⟨ai,ah,rfl,rfl⟩
  refine ⟨X6,?_⟩
  refine E1 (rs:=[23]) kr C C<|Do ?_
  refine Dt C (Ap C) (Bp (α:=Int) (e:=3) (xs:=(e_ rs<|(e_ es k).v).xs) (ys:=([(e_ es k).u]:List Int)) Ab ef C C C Mmp A5 av dc C<|λ_ _=>Atp) ?_
  rintro _ _ ⟨au,aq,rfl,rfl⟩
  refine ⟨X6,?_⟩
  refine Ff 24 C kr kr kr C kr (λ_ _ _ _ h=>h) (Ap C) C C X6 (j7.idxs (F9 Int) Cq W4 C C (M om) om om) ?_
  refine D2.stop kr ?_
  refine Ds1 25<|Se C (Cv (α:=(F9 Int)) (xs:=rs) (e:=22) (new:=(⟨ai,ah,((e_ rs<|(e_ es k).u).xs++([(e_ es k).v]:List Int))⟩:F9 Int)) W4 C C C om ta9 am) ?_
  rintro _ _ ⟨rfl,rfl⟩
  refine ⟨X6,?_⟩
  refine Cd 26 C kr kr kr C kr (λ_ _ _ _ h=>h) (Ap C) C C X6 (j7.idxs (F9 Int) Cq W4 C C (M om) om om) ?_
  refine Ds1 27<|Se C (Cv (α:=(F9 Int)) (xs:=List.set rs ((e_ es k).u).toNat (⟨ai,ah,((e_ rs<|(e_ es k).u).xs++([(e_ es k).v]:List Int))⟩:F9 Int)) (e:=22) (new:=(⟨au,aq,((e_ rs<|(e_ es k).v).xs++([(e_ es k).u]:List Int))⟩:F9 Int)) W4 C C C om ta9 am) ?_
  rintro _ _ ⟨rfl,rfl⟩
  refine ⟨X6,?_⟩
  refine Z ?_
  exact Bt ((k+1),(List.set (List.set rs ((e_ es k).u).toNat (⟨ai,ah,((e_ rs<|(e_ es k).u).xs++([(e_ es k).v]:List Int))⟩:F9 Int)) ((e_ es k).v).toNat (⟨au,aq,((e_ rs<|(e_ es k).v).xs++([(e_ es k).u]:List Int))⟩:F9 Int)))<|by dsimp only;exact ⟨om,(hR.push om om _ _ _ _)⟩
 have ay:bj1 nd es rs:=by rw [Fx om] at hR;exact hR
 refine Z ?_
 refine B9 (σ:=Nat×(List<|F9 Int)) (λs=>([(3,.slice aa (replicate nd.toNat (default:(F9 Int))).length ab),(45,.slice aa (replicate nd.toNat (default:(F9 Int))).length ab),(46,e7<|(((replicate nd.toNat (default:(F9 Int))).length:Nat):Int)),(47,e7 ((s.1:Nat):Int))]:Env)) (λs=>vc 22 (.slice aa (replicate nd.toNat (default:(F9 Int))).length ab) (rs)::e8 b1 [e7 nd,va] 38::(ao8 3 s.2++I)) (λs=>(s.1<=rs.length)/\(bj0 nd rs s.2 s.1)) (λs=>rs.length - s.1) (0,rs) (show ((0:Nat)<=rs.length)/\(bj0 nd rs (rs:List (F9 Int)) (0:Nat)) from ⟨om,(bj0.start nd rs)⟩) (cx2<|Aa C<|Aa Cn Bb) (show Fit κ _ (vc 22 (.slice aa (replicate nd.toNat (default:(F9 Int))).length ab) (rs)::e8 b1 [e7 nd,va] 38::(ao8 3 (rs)++I)) from Ai) ?_
 rintro ⟨k2,ad⟩ hp
 dsimp only at hp ⊢
 obtain ⟨bk,an⟩:=hp
 have bn:=an.len
 refine Z ?_
 refine Al C (λa6=>Z ?_)<|λa6=>Z ?_
 ·refine G.e (Ac c_ C C<|eu.gh0 (A:=[vc 22 (.slice aa (replicate nd.toNat (default:(F9 Int))).length ab) rs,e8 b1 [e7 nd,va] 38]) (I:=I) (rs:=ad) (i:=(k2:Int)) (x:=(e_ rs k2)) (an.rest _ (Hn _) om) om om<|by rw [ay.row _ om om];have:=bq7 es (k2:Int);omega) ?_
  rintro _ _ ⟨_,_,⟨R922,rfl,ak,rfl⟩,rfl,rfl⟩
  refine Ds (J:=vc 22 (.slice aa (replicate nd.toNat (default:(F9 Int))).length ab) (rs)::e8 b1 [e7 nd,va] 38::(ao8 3 (List.set ad ((k2:Int)).toNat ⟨(e_ rs k2).a,(e_ rs k2).c,V6 (e_ rs k2).xs⟩)++I)) (Cj ak)<|Z ?_
  exact Bt ((k2+1),((List.set ad ((k2:Int)).toNat ⟨(e_ rs k2).a,(e_ rs k2).c,V6 (e_ rs k2).xs⟩)))<|by dsimp only;exact ⟨om,(an.step om)⟩
 have a5:=an.all hG ay om
 have a1:(replicate nd.toNat (default:(F9 Int))).length=rs.length:=by have:=ay.len;omega
 exact Ak C C (vk 22 aa ab rs::(ao8 3 ad++I)) (by unfold vk;rw [←a1];exact Ai) ⟨aa,ab,rs,ad,by rw [←a1],a5,rfl⟩
end Go.Sl
namespace Go.Sl
open Go.Proofs
set_option maxRecDepth 4000
variable{w x y:Int}{n:Nat}
section
variable {nd:Int}{es:List Pt}{X S Y:List Int}{v:Int}
theorem P7(u v:Int):j4 u v=j4 v u:=by
 unfold j4
 rcases Lz u v with h|h|h
 ·rw [An om,B_ h,B_ h,An om]
 ·subst h;rfl
 rw [B_ h,An om,An om,B_ h]
end
section
variable {nd:Int}{es:List Pt}
theorem Z9{a b c d:Int}(h:j4 a b=j4 c d):(a=c/\b=d)\/(a=d/\b=c):=by
 unfold j4 at h
 rw [Dc] at h
 simp only at h
 obtain ⟨M,h2⟩:=h
 repeat (first|omega|split at M|split at h2)
theorem K8{e:Pt}(h:e.u<e.v):j4 e.u e.v=e:=by
 unfold j4
 rw [An om,B_ h]
theorem L3(M:s8 nd es){u v:Int}(h:u≠v):w∈j3 nd es u v↔j4 u w∈es/\j4 v w∈es:=by
 have hm:∀x:Int,w∈nbG nd es x↔j4 x w∈es:=λx=>by
  unfold nbG
  rw [An (by rw [s4.2 M];decide),af6,an7]
  constructor
  ·rintro (h|h)
   ·have:=(M.aa9 _ h).2.1
    rw [←K8 this] at h;exact h
   have:=(M.aa9 _ h).2.1
   rw [←K8 this,P7] at h;exact h
  intro h
  have hlt:=(M.aa9 _ h).2.1
  rcases Lz x w with h1|h1|h1
  ·have e:j4 x w=⟨x,w⟩:=K8 (e:=⟨x,w⟩) h1
   exact .inl<|e▸h
  ·subst h1;unfold j4 at hlt;simp at hlt
  have e:j4 x w=⟨w,x⟩:=by rw [P7];exact K8 (e:=⟨w,x⟩) h1
  exact .inr<|e▸h
 unfold j3
 rw [An h,T2,hm,hm]
theorem ao3(M:s8 nd es){u:Int}(h:j4 u w∈es):u≠w:=λe=>by
 subst e
 have:=(M.aa9 _ h).2.1
 unfold j4 at this;simp at this
theorem be4(hG:s8 nd es){e:Pt}(h:e∈es):(es.idxOf e)<es.length/\e_ es ((es.idxOf e:Nat):Int)=e:=by
 have M:=Km h
 exact ⟨M,by rw [Cs _ _ M];exact List.getElem_idxOf M⟩
theorem idx_eq(hG:s8 nd es){i:Nat}(h:i<es.length):es.idxOf (e_ es i)=i:=by
 have hm:=Bn (xs:=es) (i:=(i:Int)) om om
 obtain ⟨h1,M⟩:=be4 hG hm
 generalize es.idxOf (e_ es i)=k at h1 M
 have hn:=Fg hG.asc
 rw [Cs _ _ h1,Cs _ i h] at M
 rcases Kq k i with h3|h3|h3
 ·exact absurd M<|(Ha.1 hn) k i h1 h h3
 ·exact h3
 exact absurd M.symm<|(Ha.1 hn) i k h h1 h3
theorem aj0(M:s8 nd es){e f:Pt}(he:e∈es)(hf:f∈es)(h:es.idxOf e=es.idxOf f):e=f:=by
 rw [←(be4 M he).2,←(be4 M hf).2,h]
theorem bv8{i:Int}(M:0<=i)(h1:i<es.length):e_ (G0 nd es) i=ah6 nd es (e_ es i):=by
 obtain ⟨k,rfl⟩:=Hp M
 unfold G0
 rw [Cs _ k (by rw [Gc];omega),Cs _ k om,Jl]
theorem ar1(hG:s8 nd es){e:Pt}(he:e∈es){p:Pt}:p∈ah6 nd es e↔∃w,j4 e.u w∈es/\j4 e.v w∈es/\p=⟨((es.idxOf (j4 e.u w):Nat):Int),((es.idxOf (j4 e.v w):Nat):Int)⟩:=by
 have hlt:=(hG.aa9 e he).2.1
 unfold ah6
 rw [Gz]
 constructor
 ·rintro ⟨w,hw,rfl⟩
  obtain ⟨h1,M⟩:=(L3 hG om).1 hw
  exact ⟨w,h1,M,rfl⟩
 rintro ⟨w,h1,M,rfl⟩
 exact ⟨w,(L3 hG om).2 ⟨h1,M⟩,rfl⟩
theorem cj2(hG:s8 nd es)(M:j4 x y∈es)(hx:j4 x w∈es)(hy:j4 y w∈es):fb7 (G0 nd es) ((es.idxOf (j4 x y):Nat):Int) ((es.idxOf (j4 x w):Nat):Int) ((es.idxOf (j4 y w):Nat):Int):=by
 obtain ⟨h1,h2⟩:=be4 hG M
 unfold fb7
 rw [bv8 om om,h2,ar1 hG M,ar1 hG M]
 rcases Lz x y with h|h|h
 ·have e:j4 x y=⟨x,y⟩:=K8 (e:=⟨x,y⟩) h
  rw [e]
  exact .inl ⟨w,hx,hy,rfl⟩
 ·exact absurd h<|ao3 hG M
 have e:j4 x y=⟨y,x⟩:=by rw [P7];exact K8 (e:=⟨y,x⟩) h
 rw [e]
 exact .inr ⟨w,hy,hx,rfl⟩
theorem ds2(M:s8 nd es):cw4 (G0 nd es):=by
 have hl:(G0 nd es).length=es.length:=Gc ..
 refine ⟨λi h0 h1 p hp=>?_,λi a b h0 h1 hT=>?_,λi h0 h1=>?_⟩
 ·rw [hl] at h1
  have he:=Bn h0 h1
  have hlt:=(M.aa9 _ he).2.1
  rw [bv8 h0 h1,ar1 M he] at hp
  obtain ⟨w,hu,hv,rfl⟩:=hp
  have a1:=(be4 M hu).1
  have a2:=(be4 M hv).1
  have n1:=ao3 M hu
  have n2:=ao3 M hv
  have hi:es.idxOf (e_ es i)=i.toNat:=by
   obtain ⟨k,rfl⟩:=Hp h0
   rw [idx_eq M om];simp
  refine ⟨by simp only;omega,λe=>?_,λe=>?_,λe=>?_⟩
  ·have:=Z9 (aj0 M hu hv<|by simp only at e;omega);omega
  ·have h3:=aj0 M hu he (by simp only at e;omega)
   rw [←K8 hlt] at h3
   have:=Z9 h3;omega
  have h3:=aj0 M hv he (by simp only at e;omega)
  rw [←K8 hlt] at h3
  have:=Z9 h3;omega
 ·rw [hl] at h1
  have he:=Bn h0 h1
  have hlt:=(M.aa9 _ he).2.1
  have hi:i=((es.idxOf (j4 (e_ es i).u (e_ es i).v):Nat):Int):=by
   rw [K8 hlt]
   obtain ⟨k,rfl⟩:=Hp h0
   rw [idx_eq M om]
  have aa:j4 (e_ es i).u (e_ es i).v∈es:=by rw [K8 hlt];exact he
  unfold fb7 at hT
  rw [bv8 h0 h1,ar1 M he,ar1 M he] at hT
  rcases hT with ⟨w,hu,hv,e⟩|⟨w,hu,hv,e⟩
  ·rw [Dc] at e
   obtain ⟨e1,e2⟩:=e
   simp only at e1 e2
   rw [e1,e2]
   have:=cj2 M (x:=(e_ es i).u) (y:=w) (w:=(e_ es i).v) hu aa (by rw [P7];exact hv)
   rw [P7 w,←hi] at this;exact this
  rw [Dc] at e
  obtain ⟨e1,e2⟩:=e
  simp only at e1 e2
  rw [e1,e2]
  have:=cj2 M (x:=(e_ es i).v) (y:=w) (w:=(e_ es i).u) hv (by rw [P7];exact aa) (by rw [P7];exact hu)
  rw [P7 w,P7 (e_ es i).v (e_ es i).u,←hi] at this;exact this
 rw [hl] at h1
 have he:=Bn h0 h1
 have hlt:=(M.aa9 _ he).2.1
 rw [bv8 h0 h1]
 unfold ah6
 have ab:(j3 nd es (e_ es i).u (e_ es i).v).Pairwise (λx0 x1:Int=>x0<x1):=by
  unfold j3;split
  ·exact List.Pairwise.nil
  unfold Z7;exact (T0 _).sublist Hg
 refine Mu.2<|List.Pairwise.imp_of_mem (fun {w z} hw hz ad=>?_) ab
 obtain ⟨w1,w2⟩:=(L3 M om).1 hw
 obtain ⟨z1,z2⟩:=(L3 M om).1 hz
 have q1:=ao3 M w1
 have q2:=ao3 M w2
 have q3:=ao3 M z1
 have q4:=ao3 M z2
 refine ⟨λe=>?_,λe=>?_,λe=>?_,λe=>?_⟩
 ·have:=Z9 (aj0 M w1 z1<|by simp only at e;omega);omega
 ·have:=Z9 (aj0 M w1 z2<|by simp only at e;omega);omega
 ·have:=Z9 (aj0 M w2 z1<|by simp only at e;omega);omega
 have:=Z9 (aj0 M w2 z2<|by simp only at e;omega);omega
end
section
variable {nd:Int}{es es':List Pt}{u v:Int}
def dr9(nd:Int)(es:List Pt)(e:Pt):List (Pt×Pt):=(j3 nd es e.u e.v).map λw=>(j4 e.u w,j4 e.v w)
def bo5(nd:Int)(es:List Pt)(e:Pt):Nat:=(e_ (j5 nd es) ((es.idxOf e:Nat):Int)).toNat
theorem bv4(M:s8 nd es):j5 nd es=ax5 (G0 nd es):=An (by rw [s4.2 M];decide)
theorem fk0(hG:s8 nd es){e:Pt}(he:e∈es):∀p∈dr9 nd es e,p.1∈es/\p.2∈es:=λp M=>by
 obtain ⟨w,hw,rfl⟩:=Gz.1 M
 exact am0 hG he hw
theorem ap5(hG:s8 nd es):bu5 (λe=>e∈es) (dr9 nd es) (bo5 nd es):=by
 have h1:=bv5 (ds2 hG) (db3 (ds2 hG)<|au8 hG)
 have hl:(G0 nd es).length=es.length:=Gc ..
 have h2:=h1.move (E:=λe=>e∈es) (tri:=dr9 nd es) (λe=>((es.idxOf e:Nat):Int)) (λe M=>by have:=Km M;constructor<;>omega) (λe e' M aa h=>aj0 hG M aa om)
  (λb hb=>⟨e_ es b,Bn hb.1 om,by
   obtain ⟨k,rfl⟩:=Hp hb.1
   show ((es.idxOf (e_ es k):Nat):Int)=(k:Int)
   rw [idx_eq hG om]⟩)
  (λe M=>fk0 hG M) (λe M=>by
   have hlt:=Km M
   unfold da3 dr9
   rw [bv8 om om,(be4 hG M).2]
   unfold ah6
   rw [List.map_map,List.map_map]
   rfl)
 intro e M k
 have:=h2 e M k
 unfold bo5
 rw [bv4 hG]
 exact this
theorem aj5(X:Pt->Bool)(e:Pt):cc8 (dr9 nd es) X e=((j3 nd es e.u e.v).filter λw=>X (j4 e.u w)&&X (j4 e.v w)).length:=by
 unfold cc8 dr9
 rw [Lc,Gc]
 rfl
theorem H4(nd:Int)(es:List Pt)(x y:Int):(j3 nd es x y).Nodup:=by
 unfold j3
 split
 ·exact List.nodup_nil
 unfold Z7;exact ((T0 _).imp λh=>by omega:(ofL<|nbG nd es x).Nodup).filter _
theorem R6.cnt(h:R6 nd es es' u v){e:Pt}(he:e∈es')(ae:e≠j4 u v){X Y:Pt->Bool}(ad:∀f,X f=true->f≠j4 u v->Y f=true):cc8 (dr9 nd es') X e<=cc8 (dr9 nd es) Y e+1:=by
 have ah:=h.ok'.aa9 e he
 rw [aj5,aj5]
 have ab:=h.ends
 unfold F5 at ab
 have h1:∀w∈(j3 nd es' e.u e.v).filter (λw=>X (j4 e.u w)&&X (j4 e.v w)),w∈(if e.u=u then v else if e.u=v then u else if e.v=u then v else u)::(j3 nd es e.u e.v).filter λw=>Y (j4 e.u w)&&Y (j4 e.v w):=λw hw=>by
  obtain ⟨w1,w2⟩:=Gj.1 hw
  obtain ⟨w3,w4⟩:=L7.1 w2
  obtain ⟨m1,m2⟩:=(L3 h.ok' om).1 w1
  by_cases q:j4 e.u w≠j4 u v/\j4 e.v w≠j4 u v
  ·refine C_ _ (Gj.2 ⟨(L3 h.ok om).2 ⟨?_,?_⟩,L7.2 ⟨ad _ w3 q.1,ad _ w4 q.2⟩⟩)
   ·exact ((h.mem _).1 m1).resolve_right q.1
   exact ((h.mem _).1 m2).resolve_right q.2
  have two:∀a b:Int,j4 a b=j4 u v->(a=u/\b=v)\/(a=v/\b=u):=λa b M=>by
   rw [Dc] at M
   unfold j4 at M
   simp only at M
   split at M<;>split at M<;>split at M<;>split at M<;>omega
  have aa:¬((e.u=u/\e.v=v)\/(e.u=v/\e.v=u)):=λq2=>ae (by
   rw [Dc]
   unfold j4
   simp only
   split<;>split<;>omega)
  have:w=if e.u=u then v else if e.u=v then u else if e.v=u then v else u:=by
   have q':j4 e.u w=j4 u v\/j4 e.v w=j4 u v:=Gd λq3=>q ⟨λq4=>q3<|.inl q4,λq4=>q3<|.inr q4⟩
   rcases q' with q'|q'
   ·rcases two _ _ q' with ⟨a,b⟩|⟨a,b⟩
    ·rw [B_ a];exact b
    rw [An om,B_ a];exact b
   rcases two _ _ q' with ⟨a,b⟩|⟨a,b⟩
   ·by_cases c1:e.u=u
    ·omega
    by_cases c2:e.u=v
    ·exact absurd (.inr ⟨c2,a⟩) aa
    rw [An c1,An c2,B_ a];exact b
   by_cases c1:e.u=u
   ·exact absurd (.inl ⟨c1,a⟩) aa
   by_cases c2:e.u=v
   ·omega
   rw [An c1,An c2,An om];exact b
  rw [this];exact A_
 have:=Ho ((H4 nd es' e.u e.v).filter _) h1
 simpa using this
theorem R6.fz7(h:R6 nd es es' u v){e:Pt}(he:e∈es)(X:Pt->Bool):cc8 (dr9 nd es) X e<=cc8 (dr9 nd es') X e:=by
 have aa:=h.ok.aa9 e he
 rw [aj5,aj5]
 refine Ho ((H4 nd es e.u e.v).filter _) λw hw=>?_
 obtain ⟨w1,w2⟩:=Gj.1 hw
 obtain ⟨m1,M⟩:=(L3 h.ok om).1 w1
 exact Gj.2 ⟨(L3 h.ok' om).2 ⟨(h.mem _).2 (.inl m1),(h.mem _).2 (.inl M)⟩,w2⟩
theorem R6.fu7(h:R6 nd es es' u v){e:Pt}(he:e∈es):bo5 nd es e<=bo5 nd es' e/\bo5 nd es' e<=bo5 nd es e+1:=by
 have ab:e≠j4 u v:=λq=>h.no (q▸he)
 exact ⟨fv1 (ap5 h.ok') (ap5 h.ok) (λf M=>(h.mem f).2 (.inl M)) (λf M X=>h.fz7 M X) he,
  fu9 (ap5 h.ok) (ap5 h.ok') (j4 u v) (λf M hn=>((h.mem f).1 M).resolve_right hn) (λf M hn X Y aa=>h.cnt M hn aa) ((h.mem e).2 (.inl he)) ab⟩
theorem R6.db1(h:R6 nd es es' u v):bo5 nd es' (j4 u v)<=(j3 nd es' u v).length:=by
 have hm:j4 u v∈es':=(h.mem _).2 (.inr rfl)
 obtain ⟨X,h1,h2⟩:=(ap5 h.ok' _ hm _).1 (Gg _)
 have h3:=h1.deg _ h2
 rw [aj5] at h3
 refine Hc h3<|Hc (Gw _ _) ?_
 have aa:u≠v:=by have:=h.ends;unfold F5 at this;omega
 refine Ho (H4 _ _ _ _) λw hw=>?_
 have hu:(j4 u v).u≠(j4 u v).v:=by have:=h.ok'.aa9 _ hm;omega
 obtain ⟨m1,M⟩:=(L3 h.ok' hu).1 hw
 rw [L3 h.ok' aa]
 rcases co5 h.ends with ⟨q,_⟩|⟨q,_⟩
 ·rw [q] at m1 M;exact ⟨m1,M⟩
 rw [q] at m1 M;exact ⟨M,m1⟩
end
theorem ap8(g:Nat->Int):∀{l:List Int},l.Nodup->(∀x∈l,0<=x/\x<(n:Int))->(l.map λx=>g x.toNat).sum=p7 n λj=>if (j:Int)∈l then g j else 0
 |[],_,_=>by rw [Eu n (λj _=>An<|by simp)];rfl
 |x::l,hn,hr=>by
  obtain ⟨h1,h2⟩:=Hz.1 hn
  have hx:=hr x A_
  rw [Hi,Je,ap8 g h2 λy hy=>hr y<|C_ _ hy]
  have e1:p7 n (λj=>if (j:Int)∈x::l then g j else 0)=p7 n λj=>(if j=x.toNat then g x.toNat else 0)+if (j:Int)∈l then g j else 0:=Bz n λj hj=>by
   by_cases hq:j=x.toNat
   ·have M:(j:Int)=x:=by omega
    rw [B_ (by rw [M];exact A_),B_ hq,An<|by rw [M];exact h1,hq];omega
   have M:(j:Int)≠x:=by omega
   rw [An hq,Mo]
   by_cases hm:(j:Int)∈l
   ·rw [B_ hm,B_<|C_ _ hm]
   rw [An hm,An<|λq=>(Fy.1 q).elim M hm]
  rw [e1,F8,R7 om]
theorem cm7{l:List Int}(hn:l.Nodup)(M:∀x∈l,0<=x/\x<(n:Int)):(l.length:Int)=p7 n λj=>ind (decide ((j:Int)∈l)):=by
 have:=ap8 (n:=n) (λ_=>1) hn M
 have e:∀l:List Int,(l.map λ_=>(1:Int)).sum=(l.length:Int):=λl=>by
  induction l with
  |nil=>rfl
  |cons x l ih=>rw [Hi,Je,ih,E_];omega
 rw [e] at this
 rw [this]
 exact Bz n λj _=>(E4 _).symm
theorem bw0(g:Nat->Nat->Int):∀{es:List Pt},es.Nodup->(∀p∈es,(0<=p.u/\p.u<(n:Int))/\0<=p.v/\p.v<(n:Int))->(es.map λp=>g p.u.toNat p.v.toNat).sum=p7 n λx=>p7 n λy=>if (⟨(x:Int),(y:Int)⟩:Pt)∈es then g x y else 0
 |[],_,_=>by rw [Eu n (λx _=>Eu n λy _=>An<|by simp)];rfl
 |p::es,hn,hr=>by
  obtain ⟨h1,h2⟩:=Hz.1 hn
  have hp:=hr p A_
  rw [Hi,Je,bw0 g h2 λy hy=>hr y<|C_ _ hy]
  have e1:(p7 n λx=>p7 n λy=>if (⟨(x:Int),(y:Int)⟩:Pt)∈p::es then g x y else 0)=p7 n λx=>(if x=p.u.toNat then g p.u.toNat p.v.toNat else 0)+p7 n λy=>if (⟨(x:Int),(y:Int)⟩:Pt)∈es then g x y else 0:=Bz n λx hx=>by
   by_cases hq:x=p.u.toNat
   ·rw [B_ hq]
    have e2:(p7 n λy=>if (⟨(x:Int),(y:Int)⟩:Pt)∈p::es then g x y else 0)=p7 n λy=>(if y=p.v.toNat then g p.u.toNat p.v.toNat else 0)+if (⟨(x:Int),(y:Int)⟩:Pt)∈es then g x y else 0:=Bz n λy hy=>by
     by_cases hr2:y=p.v.toNat
     ·have M:(⟨(x:Int),(y:Int)⟩:Pt)=p:=by rw [Dc];simp only;omega
      rw [B_ (by rw [M];exact A_),B_ hr2,An<|by rw [M];exact h1,hq,hr2];omega
     have M:(⟨(x:Int),(y:Int)⟩:Pt)≠p:=λq=>by rw [Dc] at q;simp only at q;omega
     rw [An hr2,Mo]
     by_cases hm:(⟨(x:Int),(y:Int)⟩:Pt)∈es
     ·rw [B_ hm,B_<|C_ _ hm]
     rw [An hm,An<|λq=>(Fy.1 q).elim M hm]
    rw [e2,F8,R7 om]
   rw [An hq,Mo]
   refine Bz n λy hy=>?_
   have M:(⟨(x:Int),(y:Int)⟩:Pt)≠p:=λq=>by rw [Dc] at q;simp only at q;omega
   by_cases hm:(⟨(x:Int),(y:Int)⟩:Pt)∈es
   ·rw [B_ hm,B_<|C_ _ hm]
   rw [An hm,An<|λq=>(Fy.1 q).elim M hm]
  rw [e1,F8,R7 om]
section
variable {nd:Int}{es es':List Pt}{u v:Int}
def N1(nd:Int)(es:List Pt)(x y:Nat):Bool:=decide (((y:Int))∈nbG nd es (x:Int))
theorem ag3(M:s8 nd es):fs5 nd.toNat (N1 nd es):=
 ⟨λx y=>by unfold N1;rw [Ft];exact ⟨λh=>ai4 M h,λh=>ai4 M h⟩,λx=>D_ λh=>(N3 M h).2.2 rfl⟩
theorem R6.adj(h:R6 nd es es' u v):L4 nd.toNat (N1 nd es) (N1 nd es') u.toNat v.toNat:=by
 have M:=h.ends
 unfold F5 at M
 refine ⟨ag3 h.ok,by omega,by omega,by omega,?_,λx y=>?_⟩
 ·unfold N1
  rw [H1 M.1,H1 M.2.1]
  exact D_ h.nuv.1
 unfold N1
 rw [Kb,Gq,h.nb,Kk,Kk,Gq,Gq,Gq]
 refine or_congr Iff.rfl<|or_congr ?_ ?_
 ·omega
 omega
theorem fp6(M:s8 nd es)(x y:Nat):N1 nd es x y=(decide ((⟨(x:Int),(y:Int)⟩:Pt)∈es)||decide ((⟨(y:Int),(x:Int)⟩:Pt)∈es)):=by
 unfold N1
 rw [Kb,Gq,ag8 M,Kk,Gq,Gq]
theorem bw1(hG:s8 nd es)(g:Nat->Nat->Int)(hg:∀x y,g x y=g y x):2*(es.map λp=>g p.u.toNat p.v.toNat).sum=p7 nd.toNat λx=>p7 nd.toNat λy=>if N1 nd es x y=true then g x y else 0:=by
 have hr:∀p∈es,(0<=p.u/\p.u<(nd.toNat:Int))/\0<=p.v/\p.v<(nd.toNat:Int):=λp hp=>by have:=hG.aa9 p hp;omega
 have h1:=bw0 (n:=nd.toNat) g (Fg hG.asc) hr
 have h2:(es.map λp=>g p.u.toNat p.v.toNat).sum=p7 nd.toNat λx=>p7 nd.toNat λy=>if (⟨(y:Int),(x:Int)⟩:Pt)∈es then g x y else 0:=by
  rw [h1,G5]
  exact Bz _ λy _=>Bz _ λx _=>by rw [hg x y]
 have h3:(p7 nd.toNat λx=>p7 nd.toNat λy=>if N1 nd es x y=true then g x y else 0)=(p7 nd.toNat λx=>p7 nd.toNat λy=>if (⟨(x:Int),(y:Int)⟩:Pt)∈es then g x y else 0)+p7 nd.toNat λx=>p7 nd.toNat λy=>if (⟨(y:Int),(x:Int)⟩:Pt)∈es then g x y else 0:=by
  rw [←F8]
  refine Bz _ λx _=>?_
  rw [←F8]
  refine Bz _ λy _=>?_
  have M:N1 nd es x y=true↔(⟨(x:Int),(y:Int)⟩:Pt)∈es\/(⟨(y:Int),(x:Int)⟩:Pt)∈es:=by rw [fp6 hG,Kk,Gq,Gq]
  by_cases q1:(⟨(x:Int),(y:Int)⟩:Pt)∈es
  ·have q2:¬(⟨(y:Int),(x:Int)⟩:Pt)∈es:=λq2=>by have:=hG.aa9 _ q1;have:=hG.aa9 _ q2;simp only at *; omega
   rw [B_ (M.2<|.inl q1),B_ q1,An q2];omega
  by_cases q2:(⟨(y:Int),(x:Int)⟩:Pt)∈es
  ·rw [B_ (M.2<|.inr q2),An q1,B_ q2];omega
  rw [An (λq=>(M.1 q).elim q1 q2),An q1,An q2];rfl
 rw [h3,←h1,←h2];omega
theorem Q7(hG:s8 nd es)(M:x≠y):w∈j3 nd es x y↔w∈nbG nd es x/\w∈nbG nd es y:=by
 unfold j3;rw [An M,T2]
def dt0(nd:Int)(es:List Pt)(w:Int):Int:=(es.map λp=>ind (decide (w∈j3 nd es p.u p.v))).sum
theorem cj1(M:s8 nd es)(w:Nat):2*dt0 nd es (w:Int)=cc5 nd.toNat (N1 nd es) w:=by
 have h1:dt0 nd es (w:Int)=(es.map λp=>ind<|N1 nd es w p.u.toNat&&N1 nd es w p.v.toNat).sum:=by
  unfold dt0
  congr 1
  refine Ku λp hp=>?_
  have he:=M.aa9 p hp
  congr 1
  unfold N1
  rw [H1 he.1,H1 (show 0<=p.v by omega),Kb,Gq,Q7 M om,He,Gq,Gq]
  exact and_congr ⟨λh=>ai4 M h,λh=>ai4 M h⟩ ⟨λh=>ai4 M h,λh=>ai4 M h⟩
 rw [h1,bw1 M (λx y=>ind<|N1 nd es w x&&N1 nd es w y) λx y=>by rw [Ll]]
 unfold cc5
 refine Bz _ λx _=>Bz _ λy _=>?_
 cases N1 nd es x y with
 |true=>rw [B_ rfl,Kn]
 |false=>rw [An dc,Jv];rfl
theorem bz5(hG:s8 nd es)(hx:p8 nd x)(hy:p8 nd y)(M:x≠y):((j3 nd es x y).length:Int)=coN nd.toNat (N1 nd es) x.toNat y.toNat:=by
 have hr:∀w∈j3 nd es x y,0<=w/\w<(nd.toNat:Int):=λw hw=>by
  have:=N3 hG ((Q7 hG M).1 hw).1;omega
 unfold p8 at hx hy
 rw [cm7 (H4 nd es x y) hr]
 unfold coN
 rw [An om]
 refine Bz _ λj _=>?_
 congr 1
 unfold N1
 rw [H1 hx.1,H1 hy.1,Kb,Gq,Q7 hG M,He,Gq,Gq]
theorem cj3(M:s8 nd es):p7 nd.toNat (cc5 nd.toNat (N1 nd es))=2*V5 nd es:=by
 have h1:V5 nd es=(es.map λp=>coN nd.toNat (N1 nd es) p.u.toNat p.v.toNat).sum:=by
  unfold V5
  congr 1
  refine Ku λp hp=>?_
  have he:=M.aa9 p hp
  exact bz5 M ⟨he.1,by omega⟩ ⟨by omega,he.2.2⟩ om
 rw [h1,bw1 M _ λx y=>aw7 (ag3 M) x y]
 unfold cc5
 rw [G5]
 refine Bz _ λx _=>?_
 rw [G5]
 refine Bz _ λy _=>?_
 cases hxy:N1 nd es x y with
 |true=>
  rw [B_ rfl]
  unfold coN
  rw [An (λq=>by rw [q,(ag3 M).irr] at hxy;cases hxy)]
  refine Bz _ λw _=>?_
  rw [Kn,(ag3 M).sym w x,(ag3 M).sym w y]
 |false=>rw [An dc];exact Eu _ λw _=>by rw [Jv];rfl
theorem R6.tri(h:R6 nd es es' u v):V5 nd es'=V5 nd es+3*((j3 nd es u v).length:Int)/\∀w:Nat,dt0 nd es' (w:Int)=dt0 nd es (w:Int)+(if (w:Int)∈j3 nd es u v then 1 else 0)+((if (w:Int)=u then ((j3 nd es u v).length:Int) else 0)+if (w:Int)=v then ((j3 nd es u v).length:Int) else 0):=by
 have M:=h.ends
 unfold F5 at M
 have aa:u≠v:=M.2.2.2.2
 have hc:=bz5 h.ok (x:=u) (y:=v) ⟨M.1,M.2.2.1⟩ ⟨M.2.1,M.2.2.2.1⟩ aa
 have h1:=h.adj.fj9
 rw [cj3 h.ok,cj3 h.ok',←hc] at h1
 refine ⟨by omega,λw=>?_⟩
 have h2:=h.adj.tri w
 rw [←cj1 h.ok,←cj1 h.ok',←hc] at h2
 have h3:ind (N1 nd es u.toNat w&&N1 nd es v.toNat w)=if (w:Int)∈j3 nd es u v then 1 else 0:=by
  rw [←E4];congr 1
  unfold N1
  rw [H1 M.1,H1 M.2.1,Kb,He,Gq,Gq,Gq,Q7 h.ok aa]
 rw [h3] at h2
 have e1:(w=u.toNat)↔((w:Int)=u):=by omega
 have e2:(w=v.toNat)↔((w:Int)=v):=by omega
 by_cases q1:(w:Int)=u
 ·rw [B_ (e1.2 q1)] at h2;rw [B_ q1]
  by_cases q2:(w:Int)=v
  ·omega
  rw [An (λq=>q2<|e2.1 q)] at h2;rw [An q2];omega
 rw [An (λq=>q1<|e1.1 q)] at h2;rw [An q1]
 by_cases q2:(w:Int)=v
 ·rw [B_ (e2.2 q2)] at h2;rw [B_ q2];omega
 rw [An (λq=>q2<|e2.1 q)] at h2;rw [An q2];omega
end
theorem bb9{α β:Type}(f:β->Int)(h:α->List β):∀l:List α,((l.flatMap h).map f).sum=(l.map λa=>((h a).map f).sum).sum
 |[]=>rfl
 |a::l=>by rw [List.flatMap_cons,Ht,List.sum_append,Hi,Je,bb9 f h l]
section
variable {nd:Int}{es es':List Pt}{u v:Int}
def bd0(nd:Int)(es:List Pt)(u v a:Int):List Pt:=if a=v then [] else ((nbG nd es v).filter λb=>decide (b≠u/\b∈nbG nd es a)).map λb=>(⟨a,b⟩:Pt)
def p6(nd:Int)(es:List Pt)(u v:Int):List Pt:=(nbG nd es u).flatMap (bd0 nd es u v)
theorem dw4(M:s8 nd es):∀y∈nbG nd es x,0<=y/\y<(nd.toNat:Int):=λy hy=>by have:=(N3 M hy).2.1;omega
theorem ck7(hG:s8 nd es)(hu:p8 nd u)(hv:p8 nd v)(aa:v∉nbG nd es u)(f:Nat->Nat->Int) :
  ((p6 nd es u v).map λp=>f p.u.toNat p.v.toNat).sum=p7 nd.toNat λa=>p7 nd.toNat λb=>if ovr (N1 nd es) u.toNat v.toNat a b=true then f a b else 0:=by
 unfold p8 at hu hv
 unfold p6
 rw [bb9]
 have h1:(nbG nd es u).map (λa=>((bd0 nd es u v a).map λp=>f p.u.toNat p.v.toNat).sum)=(nbG nd es u).map λa=>(λa':Nat=>p7 nd.toNat λb=>if (N1 nd es v.toNat b&&N1 nd es a' b)=true then f a' b else 0) a.toNat:=Ku λa ha=>by
  have ab:=(N3 hG ha).2.1
  have ad:¬a=v:=λq=>aa (q▸ha)
  unfold bd0
  rw [An ad,List.map_map]
  have hn:=((ab9 nd es v).filter λb=>decide<|b≠u/\b∈nbG nd es a)
  have h2:=ap8 (n:=nd.toNat) (λb=>f a.toNat b) hn λb hb=>dw4 hG b (Gj.1 hb).1
  refine Eq.trans ?_<|h2.trans<|Bz _ λb hb=>?_
  ·rfl
  have M:((b:Int)∈(nbG nd es v).filter λb=>decide<|b≠u/\b∈nbG nd es a)↔(N1 nd es v.toNat b&&N1 nd es a.toNat b)=true:=by
   unfold N1
   rw [H1 hv.1,H1 ab.1,He,Gq,Gq,Gj,Gq]
   constructor
   ·rintro ⟨h3,_,h4⟩;exact ⟨h3,h4⟩
   rintro ⟨h3,h4⟩
   exact ⟨h3,λq=>aa<|ai4 hG<|q▸h3,h4⟩
  by_cases hq:(N1 nd es v.toNat b&&N1 nd es a.toNat b)=true
  ·rw [B_ (M.2 hq),B_ hq]
  rw [An (λq=>hq<|M.1 q),An hq]
 rw [h1]
 refine (ap8 (n:=nd.toNat) (λa':Nat=>p7 nd.toNat λb=>if (N1 nd es v.toNat b&&N1 nd es a' b)=true then f a' b else 0) (ab9 nd es u)<|dw4 hG).trans (Bz _ λa ha=>?_)
 have M:((a:Int)∈nbG nd es u)↔N1 nd es u.toNat a=true:=by
  unfold N1;rw [H1 hu.1,Gq]
 unfold ovr
 by_cases hq:N1 nd es u.toNat a=true
 ·rw [B_ (M.2 hq)]
  exact Bz _ λb hb=>by rw [hq,Kn]
 rw [An (λq=>hq<|M.1 q)]
 have hf:N1 nd es u.toNat a=false:=by cases e:N1 nd es u.toNat a with |false=>rfl|true=>exact absurd e hq
 exact (Eu _ λb hb=>by rw [hf,Jv,Jv];rfl).symm
theorem dv2(hG:s8 nd es)(hu:p8 nd u)(hv:p8 nd v)(M:v∉nbG nd es u):((p6 nd es u v).length:Int)=gb8 nd.toNat (N1 nd es) u.toNat v.toNat:=by
 have h1:=ck7 hG hu hv M λ_ _=>1
 have e:∀l:List Pt,(l.map λ_=>(1:Int)).sum=(l.length:Int):=λl=>by
  induction l with
  |nil=>rfl
  |cons x l ih=>rw [Hi,Je,ih,E_];omega
 rw [e] at h1
 rw [h1]
 unfold gb8 ind
 rfl
theorem bq9(hG:s8 nd es){p:Pt}(h:p∈p6 nd es u v):p8 nd p.u/\p8 nd p.v:=by
 unfold p6 at h
 obtain ⟨a,ha,M⟩:=Kw.1 h
 unfold bd0 at M
 split at M
 ·cases M
 obtain ⟨b,hb,rfl⟩:=Gz.1 M
 exact ⟨(N3 hG ha).2.1,(N3 hG (Gj.1 hb).1).2.1⟩
theorem dv1(hG:s8 nd es)(hu:p8 nd u)(hv:p8 nd v)(M:v∉nbG nd es u)(w:Nat) :
  ((p6 nd es u v).map λp=>(((ind (decide<|u=(w:Int))+ind (decide<|v=(w:Int)))+ind (decide<|p.u=(w:Int)))+ind (decide<|p.v=(w:Int)))).sum=occ nd.toNat (N1 nd es) u.toNat v.toNat w:=by
 have h1:=ck7 hG hu hv M λa b=>(((ind (decide<|u.toNat=w)+ind (decide<|v.toNat=w))+ind (decide<|a=w))+ind (decide<|b=w))
 unfold occ
 rw [←h1]
 congr 1
 unfold p8 at hu hv
 refine Ku λp hp=>?_
 have hr:=bq9 hG hp
 unfold p8 at hr
 have e1:decide (u=(w:Int))=decide (u.toNat=w):=by rw [Ft];omega
 have e2:decide (v=(w:Int))=decide (v.toNat=w):=by rw [Ft];omega
 have e3:decide (p.u=(w:Int))=decide (p.u.toNat=w):=by rw [Ft];omega
 have e4:decide (p.v=(w:Int))=decide (p.v.toNat=w):=by rw [Ft];omega
 rw [e1,e2,e3,e4]
def am5(nd:Int)(es:List Pt)(w:Nat):Int:=ai2 nd.toNat (N1 nd es) w
def J8(nd:Int)(es:List Pt):Int:=bw5 nd.toNat (N1 nd es)
def F7(nd:Int)(es:List Pt):Int:=p7 nd.toNat λw=>prs ((nbG nd es (w:Int)).length:Int)
theorem cg2(M:s8 nd es)(x:Nat):dz6 nd.toNat (N1 nd es) x=((nbG nd es (x:Int)).length:Int):=by
 rw [cm7 (ab9 nd es (x:Int)) (dw4 M)];rfl
theorem R6.fs7(h:R6 nd es es' u v):J8 nd es'=J8 nd es+((p6 nd es u v).length:Int)/\(∀w:Nat,w<nd.toNat->am5 nd es' w=am5 nd es w+((p6 nd es u v).map λp=>(((ind (decide (u=(w:Int)))+ind (decide (v=(w:Int))))+ind (decide (p.u=(w:Int))))+ind (decide (p.v=(w:Int))))).sum)/\
  F7 nd es'=F7 nd es+(((nbG nd es u).length:Int)+((nbG nd es v).length:Int)):=by
 have M:=h.ends
 unfold F5 at M
 have hu:p8 nd u:=⟨M.1,M.2.2.1⟩
 have hv:p8 nd v:=⟨M.2.1,M.2.2.2.1⟩
 refine ⟨?_,λw hw=>?_,?_⟩
 ·unfold J8
  rw [h.adj.all,dv2 h.ok hu hv h.nuv.1]
 ·unfold am5
  rw [h.adj.fs7 hw,dv1 h.ok hu hv h.nuv.1]
 have h1:=h.adj.ft7
 have e1:∀{es:List Pt},s8 nd es->F7 nd es=p7 nd.toNat λw=>prs (dz6 nd.toNat (N1 nd es) w):=λhG=>by
  unfold F7;exact Bz _ λw _=>by rw [cg2 hG]
 rw [e1 h.ok',e1 h.ok,h1,cg2 h.ok,cg2 h.ok,H1 hu.1,H1 hv.1]
theorem cj9(M:s8 nd es):p7 nd.toNat (am5 nd es)=4*J8 nd es:=bc8 (ag3 M)
end
end Go.Sl
namespace Go.Sl
open Go.Proofs
set_option maxRecDepth 4000
variable{k:Int}
attribute [local irreducible] W G V D A j7 Eff
section
variable {nd:Int}{es:List Pt}
def bz7(nd:Int)(es:List Pt)(k:Int):List Int:=(j9 nd es).map λx=>min k x
theorem U0(nd:Int)(es:List Pt)(k:Int):(bz7 nd es k).length=(j9 nd es).length:=Gc ..
theorem G8(M:s8 nd es):((j9 nd es).length:Int)=nd:=by
 have hr:=M.rng
 have hl:=M.rows.len
 unfold j9
 rw [An (by rw [s4.2 M];decide),as7];omega
theorem bs8{u:Int}(M:0<=u)(h1:u<(j9 nd es).length):e_ (bz7 nd es k) u=min k (e_ (j9 nd es) u):=by
 obtain ⟨i,rfl⟩:=Hp M
 rw [Cs _ i (by rw [U0];omega),Cs _ i om]
 unfold bz7
 rw [Jl]
theorem dm9(M:s8 nd es):bz7 nd es 0=replicate (j9 nd es).length 0:=by
 have hl:=G8 M
 refine aj3 (by rw [U0,F_]) λi hi=>?_
 rw [U0] at hi
 rw [bs8 om om,cp5 _ _ _ om om]
 have:=T7 M (u:=(i:Int)) om om
 omega
theorem fa8(M:s8 nd es)(h:1<=nd):bz7 nd es (nd - 1)=j9 nd es:=by
 have hl:=G8 M
 refine aj3 (U0 _ _ _) λi hi=>?_
 rw [U0] at hi
 rw [bs8 om om]
 have:=T7 M (u:=(i:Int)) om om
 omega
def cs7(l:List Int)(k:Int)(xs:List Int):List Int:=xs.foldl (λl v=>l.set v.toNat k) l
theorem bw6{l xs:List Int}{j:Nat}(h:j<xs.length):cs7 l k (xs.take (j+1))=(cs7 l k (xs.take j)).set (e_ xs j).toNat k:=by
 unfold cs7
 rw [Ca xs j h,Hf];rfl
theorem af3(k:Int):∀(xs l:List Int),(cs7 l k xs).length=l.length
 |[],l=>rfl
 |x::xs,l=>by
  show (cs7 (l.set x.toNat k) k xs).length=_
  rw [af3 k xs,Fq]
theorem cd9(k:Int):∀(xs l:List Int) (u:Int),(∀x∈xs,0<=x/\x<l.length)->0<=u->e_ (cs7 l k xs) u=if u∈xs then k else e_ l u
 |[],l,u,_,_=>rfl
 |x::xs,l,u,hx,hu=>by
  have M:=hx x A_
  show e_ (cs7 (l.set x.toNat k) k xs) u=_
  rw [cd9 k xs _ u (λy hy=>by rw [Fq];exact hx y<|C_ _ hy) hu,Eh _ _ _ _ M.1 hu M.2]
  by_cases h1:u∈xs
  ·rw [B_ h1,B_<|C_ _ h1]
  rw [An h1]
  by_cases h2:x=u
  ·subst h2;rw [B_ rfl,B_ A_]
  rw [An h2,An<|λh=>by rcases Fy.1 h with h|h;(· exact h2 h.symm);(· exact h1 h)]
theorem fa7(hG:s8 nd es)(hk:1<=k):cs7 (bz7 nd es (k - 1)) k (U8 nd es k)=bz7 nd es k:=by
 have hl:=G8 hG
 refine aj3 (by rw [af3,U0,U0]) λi hi=>?_
 rw [af3,U0] at hi
 rw [cd9 k _ _ _ (λx M=>by rw [U0];exact (ai7.1 M).1) om,bs8 om om,bs8 om om]
 by_cases h:(i:Int)∈U8 nd es k
 ·rw [B_ h]
  have:=(ai7.1 h).2
  omega
 rw [An h]
 have:¬k<=e_ (j9 nd es) i:=λh2=>h (ai7.2 ⟨⟨by omega,by omega⟩,h2⟩)
 omega
end
theorem dm0(nd:Int)(es:List Pt)(k:Int):(U8 nd es k).length<=64:=by
 unfold U8
 exact Hc (bw3 _ _)<|bz2 nd es
theorem cb6{κ:Ctx}{I:List Item}{nd:Int}{va:Value}{es:List Pt}(hl:Sl κ I va es)(hG:s8 nd es)(hb:es.length<=1000000)(h1:1<=nd):eu Tryz.prog κ 19 [.agg #[e7 nd,va]] I (λr J=>∃a c,r = .tuple #[.slice a (j9 nd es).length c,e7 0]/\J=vk 3 a c (j9 nd es)::I):=by
 have hr:=hG.rng
 have aq:=G8 hG
 have ai:(j9 nd es).length=nd.toNat:=by omega
 refine Ce1 Tryz.func19 C C ?_
 refine Am<|Ge1 (Au (cs:=[_,_]) C C C) λb1=>Z ?_
 refine G.e (Ac c_ C C<|V1 (nd:=nd)<|A4 hl) ?_
 rintro _ _ ⟨_,_,⟨rfl,rfl⟩,rfl,rfl⟩
 refine Z ?_
 refine Al C (λc12=>?_)<|λc12=>Z ?_
 ·exact absurd (s4.2 hG) c12
 refine Ge2 (Dl (α:=Int) (n:=nd.toNat) Ab ef C C C om om dc C) λaa M=>Z ?_
 refine B9 (σ:=Int) (λs=>([(1,pt b1),(5,.slice aa (replicate nd.toNat (default:Int)).length M),(6,e7 s)]:Env)) (λs=>vc 3 (.slice aa (replicate nd.toNat (default:Int)).length M) ((bz7 nd es<|s - 1))::e8 b1 [e7 nd,va] 38::I) (λs=>(1<=s/\(s<=nd\/s=1))) (λs=>(nd - s).toNat) 1 (show (1<=(1:Int)/\((1:Int)<=nd\/(1:Int)=1)) from om) (cx2<|Aa Cn Bb) (show Fit κ _ (vc 3 (.slice aa (replicate nd.toNat (default:Int)).length M) ((bz7 nd es<|(1) - 1))::e8 b1 [e7 nd,va] 38::I) from (by rw [show bz7 nd es (1 - 1)=replicate (j9 nd es).length 0 from dm9 hG,ai];exact Az)) ?_
 rintro q hp
 have hq:=hp
 have ap:=U0 nd es (q - 1)
 have au:=dm0 nd es q
 have an:∀x∈U8 nd es q,0<=x/\x<nd:=λx hx=>by have:=(ai7.1 hx).1;omega
 refine Z ?_
 refine Al C (λao=>Z ?_)<|λao=>Z ?_
 ·refine G.e (Ac c_ C C<|dr1 (nd:=nd) (lv:=q) (A4 hl) hG om) ?_
  rintro _ _ ⟨_,_,⟨ah,ae,rfl,rfl⟩,rfl,rfl⟩
  refine Z ?_
  refine B9 (σ:=Nat×(List Int)) (λs=>([(1,pt b1),(5,.slice aa (replicate nd.toNat (default:Int)).length M),(6,e7 q),(25,.slice ah (U8 nd es q).length ae),(26,e7<|(((U8 nd es q).length:Nat):Int)),(27,e7 ((s.1:Nat):Int))]:Env)) (λs=>vc 3 (.slice aa (replicate nd.toNat (default:Int)).length M) (s.2)::vk 3 ah ae (U8 nd es q)::e8 b1 [e7 nd,va] 38::I) (λs=>(s.1<=(U8 nd es q).length)/\(s.2=cs7 (bz7 nd es<|q - 1) q ((U8 nd es q).take s.1))) (λs=>(U8 nd es q).length - s.1) (0,bz7 nd es<|q - 1) (show ((0:Nat)<=(U8 nd es q).length)/\((bz7 nd es (q - 1):List Int)=cs7 (bz7 nd es<|q - 1) q ((U8 nd es q).take (0:Nat))) from ⟨om,rfl⟩) (cx4<|Aa C<|Aa Cn Bb) (show Fit κ _ (vc 3 (.slice aa (replicate nd.toNat (default:Int)).length M) ((bz7 nd es<|q - 1))::vk 3 ah ae (U8 nd es q)::e8 b1 [e7 nd,va] 38::I) from Az) ?_
  rintro ⟨k,out⟩ hp
  dsimp only at hp ⊢
  obtain ⟨hk,ab⟩:=hp
  have ar:out.length=(j9 nd es).length:=by rw [ab,af3,U0]
  have av:k<(U8 nd es q).length->0<=e_ (U8 nd es q) k/\e_ (U8 nd es q) k<nd:=λh=>an _ (Bn om om)
  refine Z ?_
  refine Al C (λaj=>Z ?_)<|λaj=>Z ?_
  ·refine Ge0 (Cv (α:=Int) (xs:=out) (e:=3) (new:=q) ef C C C om om am) (Z ?_)
   exact Bt ((k+1),(List.set out (e_ (U8 nd es q) k).toNat (q)))<|by dsimp only;exact ⟨om,(by rw [bw6 om,←ab])⟩
  have ak:out=bz7 nd es (q+1 - 1):=by rw [ab,Fx om,fa7 hG hq.1,Int.add_sub_cancel]
  exact Bt ((q+1)) om (hI:=by (try dsimp only);exact (by rw [←ak];exact Az))
 have hE:bz7 nd es (q - 1)=j9 nd es:=by rw [show q - 1=nd - 1 by omega];exact fa8 hG h1
 have ad:(replicate nd.toNat (default:Int)).length=(j9 nd es).length:=by rw [F_,ai]
 exact C3 C C C (vk 3 aa M (j9 nd es)::I) (by unfold vk;rw [←ad,←hE];exact Az) ⟨aa,M,by rw [←ad],rfl⟩
end Go.Sl
namespace Go.Sl
end Go.Sl
namespace Go.Sl
open Go.Proofs
set_option maxRecDepth 4000
end Go.Sl
namespace Go.Sl
open Go.Proofs
set_option maxRecDepth 4000
variable{xs:List Pt}{k:Nat}
attribute [local irreducible] W G V D A j7 Eff
section
variable {nd:Int}{es:List Pt}
theorem by2(M:s8 nd es){u v y:Int}(h:at5 nd es u v y)(hm:j4 u v∈es):y=((es.idxOf (j4 u v):Nat):Int):=by
 rcases h with ⟨_,j,rfl,hj,e⟩|⟨_,h|h⟩
 ·rw [←e,idx_eq M hj]
 ·exact absurd (s4.2 M) h
 exact absurd hm h
theorem cf1(p:Pt->Bool)(h:k<xs.length)(M:p (e_ xs k)=true):((((xs.take (k+1)).filter p).length:Nat):Int)=(((xs.take k).filter p).length:Nat)+1:=by
 rw [Ca _ k h,Gs,By,Hl,B_ M];simp
theorem bm1(p:Pt->Bool)(h:k<xs.length)(M:p (e_ xs k)=false):((((xs.take (k+1)).filter p).length:Nat):Int)=(((xs.take k).filter p).length:Nat):=by
 rw [Ca _ k h,Gs,By,Hl,M];simp
theorem dt3(hG:s8 nd es){e:Pt}(M:e∈es):(ah6 nd es e).length<=nd.toNat - 1:=by
 unfold ah6;rw [Gc];exact am1 hG M
end
theorem cy2{κ:Ctx}{I:List Item}{nd:Int}{va:Value}{es:List Pt}(hl:Sl κ I va es)(hG:s8 nd es)(i:Int)(h0:0<=i)(h1:i<es.length)(hb:es.length<=1000000):eu Tryz.prog κ 142 [.agg #[e7 nd,va],e7 i] I (λr J=>∃a c,r = .slice a (ah6 nd es (e_ es i)).length c/\J=vk 200 a c (ah6 nd es (e_ es i))::I):=by
 have aq:=hG.rng
 have he:=Bn (xs:=es) h0 h1
 have au:=am1 hG he
 refine Ce2 Tryz.func142 C C ?_
 refine Am<|Ge1 (Au (cs:=[_,_]) C C C) λb1=>Z ?_
 refine Ge1 (Aj s9 C) λb2=>Ge0 (Cr s9)<|Z ?_
 refine Gc2 (Ac c_ C C<|ag6 (nd:=nd) (A4 hl) ((e_ es i).u) ((e_ es i).v) om) λak ao=>Z ?_
 refine Dh (σ:=Nat×(Option Addr)×Nat×(List Pt)) (λs=>[(5,.slice s.2.1 s.2.2.2.length s.2.2.1),(21,e7 ((s.1:Nat):Int))]) (λs=>[vk 200 s.2.1 s.2.2.1 s.2.2.2]) (λs=>(s.1<=(j3 nd es (e_ es i).u (e_ es i).v).length)/\(s.2.2.2=((j3 nd es (e_ es i).u (e_ es i).v).take s.1).map (λw=>(⟨((es.idxOf (j4 (e_ es i).u w):Nat):Int),((es.idxOf (j4 (e_ es i).v w):Nat):Int)⟩:Pt)))) (λs=>(j3 nd es (e_ es i).u (e_ es i).v).length - s.1) (0,none,0,[]) (show ((0:Nat)<=(j3 nd es (e_ es i).u (e_ es i).v).length)/\(([]:List Pt)=((j3 nd es (e_ es i).u (e_ es i).v).take (0:Nat)).map (λw=>(⟨((es.idxOf (j4 (e_ es i).u w):Nat):Int),((es.idxOf (j4 (e_ es i).v w):Nat):Int)⟩:Pt))) from ⟨om,rfl⟩) (hI:=(B6 _ _)) ?_
 rintro ⟨k,oa,oc,out⟩ hp
 dsimp only at hp ⊢
 obtain ⟨hk,ho⟩:=hp
 have ar:out.length=k:=by rw [ho,Gc,Fr];omega
 have ad:k<(j3 nd es (e_ es i).u (e_ es i).v).length->j4 (e_ es i).u (e_ (j3 nd es (e_ es i).u (e_ es i).v) (k:Int))∈es/\j4 (e_ es i).v (e_ (j3 nd es (e_ es i).u (e_ es i).v) (k:Int))∈es:=λh=>am0 hG he (Bn om om)
 refine Z ?_
 refine Al C (λaj=>Z ?_)<|λaj=>Z ?_
 ·refine A9 mixed (Bx (vk 3 ak ao (j3 nd es ((e_ es i).u)<|(e_ es i).v)::e8 b2 [e7 ((e_ es i).u),e7<|(e_ es i).v] 105::e8 b1 [e7 nd,va] 38::I) 15<|Z ?_)
  refine Ds1 5<|Se C (Ac c_ C C<|ax2 (nd:=nd) (A4 hl) ((e_ es i).u)<|e_ (j3 nd es ((e_ es i).u)<|(e_ es i).v) (k:Int)) ?_
  rintro _ _ ⟨_,_,⟨M,rfl,ah,rfl⟩,rfl,rfl⟩
  refine ⟨Ai,?_⟩
  have ai:=by2 hG ah (ad om).1
  refine Ds1 10<|Se C (Ac c_ C C<|ax2 (nd:=nd) (A4 hl) ((e_ es i).v)<|e_ (j3 nd es ((e_ es i).u)<|(e_ es i).v) (k:Int)) ?_
  rintro _ _ ⟨_,_,⟨aa,rfl,ae,rfl⟩,rfl,rfl⟩
  refine ⟨Ai,?_⟩
  have ab:=by2 hG ae (ad om).2
  refine Dr 11 C (Ef (cells:=[_,_]) L8 B7 ef C C)<|Ds1 12<|Se1 C (B0 (α:=Pt) (cs:=[_,_]) (xs:=[⟨M,aa⟩]) Bv L8 C C dc dc C C C C) λav=>?_
  refine Ds1 13<|Se2 C (Bp (α:=Pt) (e:=200) (xs:=out) (ys:=([⟨M,aa⟩]:List Pt)) Bv L8 C C C mm A5 lcn dc C<|λ_ _=>am) λan ap=>Z ?_
  exact Bt ((k+1),(an),(ap),(out++([⟨M,aa⟩]:List Pt)))<|by dsimp only;exact ⟨om,(by rw [Ca _ k om,Ht,←ho,ai,ab];rfl)⟩
 have hX:(ah6 nd es<|e_ es i)=out:=by rw [ho,Fx om];rfl
 exact Ak C C (vk 200 oa oc (ah6 nd es<|e_ es i)::I) (by unfold vk;rw [hX];exact Ai) ⟨oa,oc,by rw [hX],rfl⟩
end Go.Sl
