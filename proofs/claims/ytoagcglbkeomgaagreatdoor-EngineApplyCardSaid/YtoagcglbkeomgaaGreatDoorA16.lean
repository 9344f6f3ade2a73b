/- A part of the proofs of statements of this seat: contracts of functions, and the plain laws that they lean on. No conditions. -/
import Derived.Test.YtoagcglbkeomgaaGreatDoorA15
set_option linter.unusedVariables false
set_option linter.unusedSimpArgs false
set_option linter.unusedSectionVars false
open List (replicate)
set_option maxHeartbeats 4000000
namespace Go.Sl
open Go.Proofs
set_option maxRecDepth 4000
variable{A:List Item}{ad:Option Addr}{c k:Nat}{xs:List Int}{i j nd:Int}{x:Item}{es:List Pt}
variable {κ:Ctx}{I:List Item}
attribute [local irreducible] W G V D A j8 Eff
theorem Z1{κ:Ctx}{B:List Item}(h:B.Sublist A:=by repeat (first|exact Jr _|exact Gq _ _|apply List.Sublist.cons_cons|apply List.Sublist.cons)):Fit κ A B:=C4 h
theorem At.ow{I:List Item}:∀{rs:List (G1 Int)} {i:Int},0<=i->i<rs.length->
  At (ao6 3 rs++I) (vc 3 (.slice (e_ rs i).a (e_ rs i).xs.length (e_ rs i).c) (e_ rs i).xs) (vc 3 (.slice ad xs.length c) xs) (ao6 3 (List.set rs i.toNat ⟨ad,c,xs⟩)++I):=fun {rs} {i} M h=>by
 obtain ⟨k,rfl⟩:∃k:Nat,i=(k:Int):=⟨i.toNat,by omega⟩
 rw [L_]
 clear M
 induction rs generalizing k with
 |nil=>simp at h;omega
 |cons r rs ih=>
  cases k with
  |zero=>exact At.head _ _ _
  |succ k=>exact At.tail _ (ih k<|by simp at h;omega)
theorem fi0{I:List Item}{rs:List (G1 Int)}(M:0<=i)(h:i<rs.length):vk 3 (e_ rs i).a (e_ rs i).c (e_ rs i).xs∈ao6 3 rs++I:=(At.ow (ad:=none) (c:=0) (xs:=[]) M h).mem
theorem fm0{rs:List (G1 Int)}(M:0<=i)(h:i<rs.length):Sl κ (ao6 3 rs++I) (.slice (e_ rs i).a (e_ rs i).xs.length (e_ rs i).c) (e_ rs i).xs:=Cy (fi0 M h)
theorem At.ow2{I:List Item}{rs:List (G1 Int)}{x:G1 Int}(h0:0<=i)(h:i<rs.length)(j0:0<=j)(hj:j<rs.length)(M:j≠i) :
  At (ao6 3 (List.set rs j.toNat x)++I) (vc 3 (.slice (e_ rs i).a (e_ rs i).xs.length (e_ rs i).c) (e_ rs i).xs) (vc 3 (.slice ad xs.length c) xs) (ao6 3 (List.set (List.set rs j.toNat x) i.toNat ⟨ad,c,xs⟩)++I):=by
 have h1:=At.ow (I:=I) (ad:=ad) (c:=c) (xs:=xs) (rs:=List.set rs j.toNat x) (i:=i) h0 (by rw [Fs];exact h)
 rw [Ei _ _ _ _ j0 h0 hj,An M] at h1
 exact h1
theorem Fit.fx5:∀(rs:List (G1 Int)),(∀r∈rs,r=default)->Fit κ I (ao6 3 rs++I)
 |[],_=>De _
 |r::rs,h=>by
  refine A9 (Fit.fx5 rs λx M=>h x<|C_ _ M) ?_
  show Fit κ _ (vk 3 r.a r.c r.xs::_)
  rw [h r A_]
  exact B6 _ _
theorem Atp{I I':List Item}{y:Item}(h:At I x y I':=by repeat (first|exact At.ow asm asm|exact At.ow2 asm asm asm asm asm|apply At.tail)):At I x y I':=h
theorem fm1{I:List Item}{rs:List (G1 Int)}{x:G1 Int}(h0:0<=i)(h:i<rs.length)(j0:0<=j)(hj:j<rs.length)(M:j≠i):vk 3 (e_ rs i).a (e_ rs i).c (e_ rs i).xs∈ao6 3 (List.set rs j.toNat x)++I:=(At.ow2 (ad:=none) (c:=0) (xs:=[]) h0 h j0 hj M).mem
theorem Mmp{I:List Item}(h:x∈I:=by repeat (first|exact fi0 asm asm|exact fm1 asm asm asm asm asm|apply C_)):x∈I:=h
structure bj4 (nd:Int) (es:List Pt) (rs:List (G1 Int)):Prop where
 len:(rs.length:Int)=nd
 row:∀i:Int,0<=i->i<nd->(e_ rs i).xs=nbL es i
theorem bj4.start(h:0<=nd):bj4 nd [] (replicate nd.toNat (default:G1 Int)):=⟨by rw [Gc];omega,λi M h1=>by rw [cp3 _ _ _ M om];rfl⟩
theorem bj4.push{rs:List (G1 Int)}(h:bj4 nd (es.take k) rs)(hk:k<es.length)(he:0<=(e_ es k).u/\(e_ es k).u<(e_ es k).v/\(e_ es k).v<nd)(a b:Option Addr)(c d:Nat) :
  bj4 nd (es.take<|k+1) (List.set (List.set rs (e_ es k).u.toNat ⟨a,c,(e_ rs (e_ es k).u).xs++[(e_ es k).v]⟩) (e_ es k).v.toNat ⟨b,d,(e_ rs (e_ es k).v).xs++[(e_ es k).u]⟩):=by
 have hl:=h.len
 refine ⟨by rw [Fs,Fs];exact hl,λi M h1=>?_⟩
 rw [aq8 hk,Ei _ _ _ _ om M<|by rw [Fs];omega,Ei _ _ _ _ om M om]
 by_cases e1:(e_ es k).v=i
 ·rw [B_ e1,An om,B_ e1]
  show (e_ rs (e_ es k).v).xs++_=_
  rw [e1,h.row i M h1];rfl
 rw [An e1,An e1]
 by_cases e2:(e_ es k).u=i
 ·rw [B_ e2,B_ e2]
  show (e_ rs (e_ es k).u).xs++_=_
  rw [e2,h.row i M h1,Gv]
 rw [An e2,An e2,h.row i M h1];simp
theorem eu.gh0{κ:Ctx}{I:List Item}{rs:List (G1 Int)}{x:G1 Int}(hx:e_ rs i=x)(h0:0<=i)(h:i<rs.length)(ab:x.xs.length<4611686018427387904):eu Tryz.prog κ 163 [.slice x.a x.xs.length x.c] (A++(ao6 3 rs++I)) λr J=>∃R,r = .tuple #[]/\(vc 3 (.slice x.a x.xs.length x.c) (V7 x.xs)::R).Perm (A++(ao6 3 (List.set rs i.toNat ⟨x.a,x.c,V7 x.xs⟩)++I))/\J=vc 3 (.slice x.a x.xs.length x.c) (V7 x.xs)::R:=by
 have M:=At.ow (I:=I) (ad:=x.a) (c:=x.c) (xs:=V7 x.xs) (rs:=rs) (i:=i) h0 h
 rw [hx] at M
 obtain ⟨R,h1,h2⟩:=M.perm
 rw [ad3] at h2
 have hp:(A++(ao6 3 rs++I)).Perm (vk 3 x.a x.c x.xs::(A++R)):=(List.Perm.append_left A h1).trans Mf
 have aa:(vc 3 (.slice x.a x.xs.length x.c) (V7 x.xs)::(A++R)).Perm (A++(ao6 3 (List.set rs i.toNat ⟨x.a,x.c,V7 x.xs⟩)++I)):=(Mf.symm).trans (List.Perm.append_left A h2.symm)
 exact Ck (Cj hp)<|(cj5 (e:=3) ab).mono λr J ⟨e1,e2⟩=>⟨A++R,e1,aa,e2⟩
theorem bx3{nd:Int}:∀{es:List Pt},es.Nodup->(∀e∈es,e.u<e.v)->∀v,(nbL es v).Nodup
  |[],_,_,v=>List.nodup_nil
  |e::es,hn,h,v=>by
    obtain ⟨h1,h2⟩:=Jb.1 hn
    have ih:=bx3 (nd:=nd) h2 (λx hx=>h x<|C_ _ hx) v
    have he:=h e A_
    have e1:nbL (e::es) v=((if e.u=v then [e.v] else [])++(if e.v=v then [e.u] else []))++nbL es v:=rfl
    rw [e1]
    by_cases a:e.u=v
    · rw [B_ a,An om,Gv]
      refine Jb.2 ⟨λM=>?_,ih⟩
      rcases an6.1 M with hh|hh
      · exact h1 (by have:e=⟨v,e.v⟩:=by rw [Dd];exact ⟨a,rfl⟩
                     rw [this];exact hh)
      · have:=h _ (C_ _ hh);simp only at this;omega
    · rw [An a]
      by_cases b:e.v=v
      · rw [B_ b,Kr]
        refine Jb.2 ⟨λM=>?_,ih⟩
        rcases an6.1 M with hh|hh
        · have:=h _ (C_ _ hh);simp only at this;omega
        · exact h1 (by have:e=⟨e.u,v⟩:=by rw [Dd];exact ⟨rfl,b⟩
                       rw [this];exact hh)
      · rw [An b];exact ih
theorem dc4(M:s8 nd es)(v:Int):V7 (nbL es v)=nbG nd es v:=by
 have hn:=bx3 (nd:=nd) (Fi M.asc) (λe he=>(M.aa9 e he).2.1) v
 unfold nbG
 rw [An (by rw [s4.2 M];decide)]
 refine ar6.uniq ?_ (T1 _) λx=>by rw [df7,af5]
 have h1:=bc4 (nbL es v)
 have h2:(V7<|nbL es v).Nodup:=(ad2 _).nodup_iff.2 hn
 exact (h1.and h2).imp λh=>by have:=h.1;have:=h.2;omega
structure cq5 (nd:Int) (es:List Pt) (rs rs2:List (G1 Int)):Prop where
 len:(rs.length:Int)=nd/\(rs2.length:Int)=nd
 row:∀i:Int,0<=i->i<nd->e_ rs2 i=⟨(e_ rs i).a,(e_ rs i).c,nbG nd es i⟩/\(e_ rs i).xs.length=(nbG nd es i).length
structure bj3 (nd:Int) (rs rs2:List (G1 Int)) (k:Nat):Prop where
 len:rs2.length=rs.length
 done:∀i:Int,0<=i->i<(k:Int)->e_ rs2 i=⟨(e_ rs i).a,(e_ rs i).c,V7 (e_ rs i).xs⟩
 rest:∀i:Int,(k:Int)<=i->i<rs.length->e_ rs2 i=e_ rs i
theorem bj3.start(nd:Int)(rs:List (G1 Int)):bj3 nd rs rs 0:=⟨rfl,λi M h1=>by omega,λi _ _=>rfl⟩
theorem bj3.step{rs M:List (G1 Int)}(h:bj3 nd rs M k)(hk:k<rs.length):bj3 nd rs (List.set M ((k:Int)).toNat ⟨(e_ rs k).a,(e_ rs k).c,V7 (e_ rs k).xs⟩) (k+1):=by
 have hl:=h.len
 refine ⟨by rw [Fs];exact hl,λi h0 h1=>?_,λi h0 h1=>?_⟩
 ·rw [Ei _ _ _ _ om h0 om]
  by_cases e:(k:Int)=i
  ·rw [B_ e,e]
  rw [An e];exact h.done i h0 om
 rw [Ei _ _ _ _ om om om,An om];exact h.rest i om h1
theorem bj3.all{rs M:List (G1 Int)}(hG:s8 nd es)(h:bj3 nd rs M k)(hR:bj4 nd es rs)(hk:k=rs.length):cq5 nd es rs M:=by
 have hl:=h.len
 have hr:=hR.len
 refine ⟨⟨hr,by omega⟩,λi h0 h1=>?_⟩
 have e:=hR.row i h0 h1
 rw [h.done i h0 om,e,dc4 hG]
 refine ⟨rfl,?_⟩
 rw [←dc4 hG,ad3]
theorem cq5.held{rs M:List (G1 Int)}(h:cq5 nd es rs M)(h0:0<=i)(h1:i<nd):Sl κ (ao6 3 M++I) (.slice (e_ rs i).a (e_ rs i).xs.length (e_ rs i).c) (nbG nd es i):=by
 obtain ⟨e,el⟩:=h.row i h0 h1
 have hh:=fm0 (κ:=κ) (I:=I) (rs:=M) (i:=i) h0 (by have:=h.len;omega)
 rw [e] at hh
 rw [el];exact hh
theorem ta9{p:Prop}(h:p:=by first|omega|(rw [Fs];omega)):p:=h
theorem cq4{va:Value}(hl:Sl κ I va es)(hG:s8 nd es):eu Tryz.prog κ 132 [.agg #[e7 nd,va]] I (λr J=>∃a c rs ad,r = .slice a (rs:List (G1 Int)).length c/\cq5 nd es rs ad/\J=vk 22 a c rs::(ao6 3 ad++I)):=by
 refine Bx hl.le λa9=>?_
 have a8:=hG.rng
 have bq:=q9 hG
 refine Ce1 Tryz.func132 C C ?_
 refine Al<|Ge1 (Av (cs:=[_,_]) C C C) λb1=>Z ?_
 refine Ge2 (Dm (α:=(G1 Int)) (n:=nd.toNat) Cr W4 C C C om om dc C) λaa ab=>?_
 refine Ga C ?_
 have ba:(replicate nd.toNat (default:G1 Int)).length=nd.toNat:=Gc
 refine G.pull (p:=0<(replicate nd.toNat (default:G1 Int)).length->aa≠none) (vc.isSome mm) λM=>Z ?_
 refine B9 (σ:=Nat×(List<|G1 Int)) (λs=>([(3,.slice aa (replicate nd.toNat (default:(G1 Int))).length ab),(12,va),(13,e7 ((es.length:Nat):Int)),(14,e7 ((s.1:Nat):Int))]:Env)) (λs=>vc 22 (.slice aa (replicate nd.toNat (default:(G1 Int))).length ab) (s.2)::e8 b1 [e7 nd,va] 38::(ao6 3 s.2++I)) (λs=>(s.1<=es.length)/\(bj4 nd (es.take s.1) s.2)) (λs=>es.length - s.1) (0,replicate nd.toNat (default:(G1 Int))) (show ((0:Nat)<=es.length)/\(bj4 nd (es.take (0:Nat)) (replicate nd.toNat (default:(G1 Int)):List (G1 Int))) from ⟨om,(bj4.start om)⟩) (cx2<|Aa C<|Aa Cl Bb) (show Fit κ _ (vk 22 aa ab (replicate nd.toNat (default:(G1 Int)))::e8 b1 [e7 nd,va] 38::(ao6 3 (replicate nd.toNat (default:(G1 Int)))++I)) from (A9 (show Fit κ _ (ao6 3 (replicate nd.toNat (default:(G1 Int)))++(vk 22 aa ab (replicate nd.toNat (default:(G1 Int)))::e8 b1 [e7 nd,va] 38::I)) from A9 Az (Fit.fx5 _<|λr hr=>Ki hr))<|Cj<|Cz (A:=ao6 3 (replicate nd.toNat (default:(G1 Int)))) (L:=[vk 22 aa ab (replicate nd.toNat (default:(G1 Int))),e8 b1 [e7 nd,va] 38]) (T:=I))) ?_
 rintro ⟨k,rs⟩ hp
 dsimp only at hp ⊢
 obtain ⟨hk,hR⟩:=hp
 have a4:=λh:k<es.length=>hG.at h
 have bo:=hR.len
 refine Z ?_
 refine Ao C (λa5=>Z ?_)<|λa5=>Z ?_
 ·refine Ge1 (Aj s9 C) λb4=>Ge0 (Co s9) ?_
  obtain ⟨br,bp,bn⟩:=a4 om
  have bg:((e_ es k).u)<rs.length:=by omega
  have bi:0<=((e_ es k).v):=by omega
  have bj:((e_ es k).v)<rs.length:=by omega
  have bb:((e_ es k).u)≠((e_ es k).v):=by omega
  have ax:(((e_ rs<|(e_ es k).u).xs).length+([((e_ es k).v)]:List Int).length)*8<=140737488355328:=by rw [hR.row _ om om];have h2:=bq9 (es.take k) ((e_ es k).u);simp only [Ft,E_,Fy] at h2 ⊢; omega
  have ay:(((e_ rs<|(e_ es k).v).xs).length+([((e_ es k).u)]:List Int).length)*8<=140737488355328:=by rw [hR.row _ om om];have h3:=bq9 (es.take k) ((e_ es k).v);simp only [Ft,E_,Fy] at h3 ⊢; omega
  refine Ar<|A8 mixed<|Bv (e8 b4 [e7 ((e_ es k).u),e7<|(e_ es k).v] 105::I) 28<|Cd 0 C kr kr kr C kr (λ_ _ _ _ h=>h) (Aq C) C C Z1 (Ap C) ?_
  refine Cd 1 C kr kr kr C kr (λ_ _ _ _ h=>h) (Aq C) C C Z1 (Af P0 C) ?_
  refine Cd 2 C kr kr kr C kr (λ_ _ _ _ h=>h) (Aq C) C C Z1 (Be ef) ?_
  refine Cd 3 C kr kr kr C kr (λ_ _ _ _ h=>h) (Aq C) C C Z1 (Ap C) ?_
  refine Cd 4 C kr kr kr C kr (λ_ _ _ _ h=>h) (Aq C) C C Z1 (Af N9 C) ?_
  refine Cd 5 C kr kr kr C kr (λ_ _ _ _ h=>h) (Aq C) C C Z1 (Be ef) ?_
  refine Cd 6 C kr kr kr C kr (λ_ _ _ _ h=>h) (Aq C) C C Z1 (Ap C) ?_
  refine Cd 7 C kr kr kr C kr (λ_ _ _ _ h=>h) (Aq C) C C Z1 (Af P0 C) ?_
  refine Cd 8 C kr kr kr C kr (λ_ _ _ _ h=>h) (Aq C) C C Z1 (Be ef) ?_
  refine Cd 9 C kr kr kr C kr (λ_ _ _ _ h=>h) (Aq C) C C Z1 (j8.idxs (G1 Int) Cr W4 C C (M om) om om) ?_
  refine Cd 11 C kr kr kr C kr (λ_ _ _ _ h=>h) (Aq C) C C Z1 (Af N9 C) ?_
  refine Cd 12 C kr kr kr C kr (λ_ _ _ _ h=>h) (Aq C) C C Z1 (Be ef) ?_
  refine Cd 15 C kr kr kr C kr (λ_ _ _ _ h=>h) (Aq C) C C Z1 (Ap C) ?_
  refine Cd 16 C kr kr kr C kr (λ_ _ _ _ h=>h) (Aq C) C C Z1 (Af N9 C) ?_
  refine Cd 17 C kr kr kr C kr (λ_ _ _ _ h=>h) (Aq C) C C Z1 (Be ef) ?_
  refine Cd 18 C kr kr kr C kr (λ_ _ _ _ h=>h) (Aq C) C C Z1 (j8.idxs (G1 Int) Cr W4 C C (M om) om om) ?_
  refine Cd 20 C kr kr kr C kr (λ_ _ _ _ h=>h) (Aq C) C C Z1 (Af P0 C) ?_
  refine Cd 21 C kr kr kr C kr (λ_ _ _ _ h=>h) (Aq C) C C Z1 (Be ef) ?_
  refine D.two (e8 b4 [e7 ((e_ es k).u),e7<|(e_ es k).v] 105::vc 22 (.slice aa (replicate nd.toNat (default:(G1 Int))).length ab) (rs)::I) 25 Z1 ?_
  refine Fh 10 C kr kr kr C kr (λ_ _ _ _ h=>h) (Aq C) C C Z1 (Cc (α:=(G1 Int)) (xs:=rs) (u:= .slice (e_ rs<|(e_ es k).u).a (e_ rs<|(e_ es k).u).xs.length (e_ rs<|(e_ es k).u).c) W4 C A5 om om C) ?_
  refine Fh 19 C kr kr kr C kr (λ_ _ _ _ h=>h) (Aq C) C C Z1 (Cc (α:=(G1 Int)) (xs:=rs) (u:= .slice (e_ rs<|(e_ es k).v).a (e_ rs<|(e_ es k).v).xs.length (e_ rs<|(e_ es k).v).c) W4 C A5 om om C) ?_
  refine E0 (rs:=[13,22]) kr C C<|D5 ?_<|Dl ?_
  ·refine Du C (Aq C) (B1 (α:=Int) (cs:=[_]) (xs:=[(e_ es k).v]) Ac ef C C dc dc C C C C) ?_
   rintro _ _ ⟨bk,rfl,rfl⟩
   refine ⟨Z1,?_⟩
   refine E0 (rs:=[14,22]) kr C C<|D5 ?_<|Dl ?_
   ·refine Du C (Aq C) (Bs (α:=Int) (e:=3) (xs:=(e_ rs<|(e_ es k).u).xs) (ys:=([(e_ es k).v]:List Int)) Ac ef C C C Mmp A5 ax dc C<|λ_ _=>Atp) ?_
    rintro _ _ ⟨az,av,rfl,rfl⟩
    refine ⟨Z1,?_⟩
    refine E0 (rs:=[22]) kr C C<|Dl ?_
    refine Du C (Aq C) (B1 (α:=Int) (cs:=[_]) (xs:=[(e_ es k).u]) Ac ef C C dc dc C C C C) ?_
    rintro _ _ ⟨bm,rfl,rfl⟩
    refine ⟨Z1,?_⟩
    refine E0 (rs:=[23]) kr C C<|Dl ?_
    refine Du C (Aq C) (Bs (α:=Int) (e:=3) (xs:=(e_ rs<|(e_ es k).v).xs) (ys:=([(e_ es k).u]:List Int)) Ac ef C C C Mmp A5 ay dc C<|λ_ _=>Atp) ?_
    rintro _ _ ⟨a1,au,rfl,rfl⟩
    refine ⟨Z1,?_⟩
    refine Fh 24 C kr kr kr C kr (λ_ _ _ _ h=>h) (Aq C) C C Z1 (j8.idxs (G1 Int) Cr W4 C C (M om) om om) ?_
    refine D2.stop kr ?_
    refine Ds1 25<|Se C (Cw (α:=(G1 Int)) (xs:=rs) (e:=22) (new:=(⟨az,av,((e_ rs<|(e_ es k).u).xs++([(e_ es k).v]:List Int))⟩:G1 Int)) W4 C C C om ta9 am) ?_
    rintro _ _ ⟨rfl,rfl⟩
    refine ⟨Z1,?_⟩
    refine Cd 26 C kr kr kr C kr (λ_ _ _ _ h=>h) (Aq C) C C Z1 (j8.idxs (G1 Int) Cr W4 C C (M om) om om) ?_
    refine Ds1 27<|Se C (Cw (α:=(G1 Int)) (xs:=List.set rs ((e_ es k).u).toNat (⟨az,av,((e_ rs<|(e_ es k).u).xs++([(e_ es k).v]:List Int))⟩:G1 Int)) (e:=22) (new:=(⟨a1,au,((e_ rs<|(e_ es k).v).xs++([(e_ es k).u]:List Int))⟩:G1 Int)) W4 C C C om ta9 am) ?_
    rintro _ _ ⟨rfl,rfl⟩
    refine ⟨Z1,?_⟩
    refine Z ?_
    exact Bu ((k+1),(List.set (List.set rs ((e_ es k).u).toNat (⟨az,av,((e_ rs<|(e_ es k).u).xs++([(e_ es k).v]:List Int))⟩:G1 Int)) ((e_ es k).v).toNat (⟨a1,au,((e_ rs<|(e_ es k).v).xs++([(e_ es k).u]:List Int))⟩:G1 Int)))<|by dsimp only;exact ⟨om,(hR.push om om _ _ _ _)⟩
   refine Du C (Aq C) (B1 (α:=Int) (cs:=[_]) (xs:=[(e_ es k).u]) Ac ef C C dc dc C C C C) ?_
   rintro _ _ ⟨bc,rfl,rfl⟩
   refine ⟨Z1,?_⟩
   refine E0 (rs:=[14]) kr C C<|Dl ?_
   refine Du C (Aq C) (Bs (α:=Int) (e:=3) (xs:=(e_ rs<|(e_ es k).u).xs) (ys:=([(e_ es k).v]:List Int)) Ac ef C C C Mmp A5 ax dc C<|λ_ _=>Atp) ?_
   rintro _ _ ⟨ae,ah,rfl,rfl⟩
   refine ⟨Z1,?_⟩
   refine E0 (rs:=[23]) kr C C<|Dl ?_
   refine Du C (Aq C) (Bs (α:=Int) (e:=3) (xs:=(e_ rs<|(e_ es k).v).xs) (ys:=([(e_ es k).u]:List Int)) Ac ef C C C Mmp A5 ay dc C<|λ_ _=>Atp) ?_
   rintro _ _ ⟨aq,ao,rfl,rfl⟩
   refine ⟨Z1,?_⟩
   refine Fh 24 C kr kr kr C kr (λ_ _ _ _ h=>h) (Aq C) C C Z1 (j8.idxs (G1 Int) Cr W4 C C (M om) om om) ?_
   refine D2.stop kr ?_
   refine Ds1 25<|Se C (Cw (α:=(G1 Int)) (xs:=rs) (e:=22) (new:=(⟨ae,ah,((e_ rs<|(e_ es k).u).xs++([(e_ es k).v]:List Int))⟩:G1 Int)) W4 C C C om ta9 am) ?_
   rintro _ _ ⟨rfl,rfl⟩
   refine ⟨Z1,?_⟩
   refine Cd 26 C kr kr kr C kr (λ_ _ _ _ h=>h) (Aq C) C C Z1 (j8.idxs (G1 Int) Cr W4 C C (M om) om om) ?_
   refine Ds1 27<|Se C (Cw (α:=(G1 Int)) (xs:=List.set rs ((e_ es k).u).toNat (⟨ae,ah,((e_ rs<|(e_ es k).u).xs++([(e_ es k).v]:List Int))⟩:G1 Int)) (e:=22) (new:=(⟨aq,ao,((e_ rs<|(e_ es k).v).xs++([(e_ es k).u]:List Int))⟩:G1 Int)) W4 C C C om ta9 am) ?_
   rintro _ _ ⟨rfl,rfl⟩
   refine ⟨Z1,?_⟩
   refine Z ?_
   exact Bu ((k+1),(List.set (List.set rs ((e_ es k).u).toNat (⟨ae,ah,((e_ rs<|(e_ es k).u).xs++([(e_ es k).v]:List Int))⟩:G1 Int)) ((e_ es k).v).toNat (⟨aq,ao,((e_ rs<|(e_ es k).v).xs++([(e_ es k).u]:List Int))⟩:G1 Int)))<|by dsimp only;exact ⟨om,(hR.push om om _ _ _ _)⟩
  refine Du C (Aq C) (B1 (α:=Int) (cs:=[_]) (xs:=[(e_ es k).u]) Ac ef C C dc dc C C C C) ?_
  rintro _ _ ⟨a7,rfl,rfl⟩
  refine ⟨Z1,?_⟩
  refine E0 (rs:=[13]) kr C C<|Dl ?_
  refine Du C (Aq C) (B1 (α:=Int) (cs:=[_]) (xs:=[(e_ es k).v]) Ac ef C C dc dc C C C C) ?_
  rintro _ _ ⟨be,rfl,rfl⟩
  refine ⟨Z1,?_⟩
  refine E0 (rs:=[14]) kr C C<|Dl ?_
  refine Du C (Aq C) (Bs (α:=Int) (e:=3) (xs:=(e_ rs<|(e_ es k).u).xs) (ys:=([(e_ es k).v]:List Int)) Ac ef C C C Mmp A5 ax dc C<|λ_ _=>Atp) ?_
  rintro _ _ ⟨ai,aj,rfl,rfl⟩
  refine ⟨Z1,?_⟩
  refine E0 (rs:=[23]) kr C C<|Dl ?_
  refine Du C (Aq C) (Bs (α:=Int) (e:=3) (xs:=(e_ rs<|(e_ es k).v).xs) (ys:=([(e_ es k).u]:List Int)) Ac ef C C C Mmp A5 ay dc C<|λ_ _=>Atp) ?_
  rintro _ _ ⟨ar,ap,rfl,rfl⟩
  refine ⟨Z1,?_⟩
  refine Fh 24 C kr kr kr C kr (λ_ _ _ _ h=>h) (Aq C) C C Z1 (j8.idxs (G1 Int) Cr W4 C C (M om) om om) ?_
  refine D2.stop kr ?_
  refine Ds1 25<|Se C (Cw (α:=(G1 Int)) (xs:=rs) (e:=22) (new:=(⟨ai,aj,((e_ rs<|(e_ es k).u).xs++([(e_ es k).v]:List Int))⟩:G1 Int)) W4 C C C om ta9 am) ?_
  rintro _ _ ⟨rfl,rfl⟩
  refine ⟨Z1,?_⟩
  refine Cd 26 C kr kr kr C kr (λ_ _ _ _ h=>h) (Aq C) C C Z1 (j8.idxs (G1 Int) Cr W4 C C (M om) om om) ?_
  refine Ds1 27<|Se C (Cw (α:=(G1 Int)) (xs:=List.set rs ((e_ es k).u).toNat (⟨ai,aj,((e_ rs<|(e_ es k).u).xs++([(e_ es k).v]:List Int))⟩:G1 Int)) (e:=22) (new:=(⟨ar,ap,((e_ rs<|(e_ es k).v).xs++([(e_ es k).u]:List Int))⟩:G1 Int)) W4 C C C om ta9 am) ?_
  rintro _ _ ⟨rfl,rfl⟩
  refine ⟨Z1,?_⟩
  refine Z ?_
  exact Bu ((k+1),(List.set (List.set rs ((e_ es k).u).toNat (⟨ai,aj,((e_ rs<|(e_ es k).u).xs++([(e_ es k).v]:List Int))⟩:G1 Int)) ((e_ es k).v).toNat (⟨ar,ap,((e_ rs<|(e_ es k).v).xs++([(e_ es k).u]:List Int))⟩:G1 Int)))<|by dsimp only;exact ⟨om,(hR.push om om _ _ _ _)⟩
 have aw:bj4 nd es rs:=by rw [Fz om] at hR;exact hR
 refine Z ?_
 refine B9 (σ:=Nat×(List<|G1 Int)) (λs=>([(3,.slice aa (replicate nd.toNat (default:(G1 Int))).length ab),(45,.slice aa (replicate nd.toNat (default:(G1 Int))).length ab),(46,e7<|(((replicate nd.toNat (default:(G1 Int))).length:Nat):Int)),(47,e7 ((s.1:Nat):Int))]:Env)) (λs=>vc 22 (.slice aa (replicate nd.toNat (default:(G1 Int))).length ab) (rs)::e8 b1 [e7 nd,va] 38::(ao6 3 s.2++I)) (λs=>(s.1<=rs.length)/\(bj3 nd rs s.2 s.1)) (λs=>rs.length - s.1) (0,rs) (show ((0:Nat)<=rs.length)/\(bj3 nd rs (rs:List (G1 Int)) (0:Nat)) from ⟨om,(bj3.start nd rs)⟩) (cx2<|Aa C<|Aa Cl Bb) (show Fit κ _ (vc 22 (.slice aa (replicate nd.toNat (default:(G1 Int))).length ab) (rs)::e8 b1 [e7 nd,va] 38::(ao6 3 (rs)++I)) from Ai) ?_
 rintro ⟨k2,ad⟩ hp
 dsimp only at hp ⊢
 obtain ⟨bh,an⟩:=hp
 have bf:=an.len
 refine Z ?_
 refine Ao C (λa6=>Z ?_)<|λa6=>Z ?_
 ·refine G.e (Ab c_ C C<|eu.gh0 (A:=[vc 22 (.slice aa (replicate nd.toNat (default:(G1 Int))).length ab) rs,e8 b1 [e7 nd,va] 38]) (I:=I) (rs:=ad) (i:=(k2:Int)) (x:=(e_ rs k2)) (an.rest _ (Hp _) om) om om<|by rw [aw.row _ om om];have:=bq9 es (k2:Int);omega) ?_
  rintro _ _ ⟨_,_,⟨R922,rfl,ak,rfl⟩,rfl,rfl⟩
  refine Dp (J:=vc 22 (.slice aa (replicate nd.toNat (default:(G1 Int))).length ab) (rs)::e8 b1 [e7 nd,va] 38::(ao6 3 (List.set ad ((k2:Int)).toNat ⟨(e_ rs k2).a,(e_ rs k2).c,V7 (e_ rs k2).xs⟩)++I)) (Cj ak)<|Z ?_
  exact Bu ((k2+1),((List.set ad ((k2:Int)).toNat ⟨(e_ rs k2).a,(e_ rs k2).c,V7 (e_ rs k2).xs⟩)))<|by dsimp only;exact ⟨om,(an.step om)⟩
 have a3:=an.all hG aw om
 have a0:(replicate nd.toNat (default:(G1 Int))).length=rs.length:=by have:=aw.len;omega
 exact Am C C (vk 22 aa ab rs::(ao6 3 ad++I)) (by unfold vk;rw [←a0];exact Ai) ⟨aa,ab,rs,ad,by rw [←a0],a3,rfl⟩
end Go.Sl
namespace Go.Sl
open Go.Proofs
set_option maxRecDepth 4000
variable{w x y:Int}{n:Nat}
section
variable {nd:Int}{es:List Pt}{X S Y:List Int}{v:Int}
theorem P9(u v:Int):j4 u v=j4 v u:=by
 unfold j4
 rcases Ma u v with h|h|h
 ·rw [An om,B_ h,B_ h,An om]
 ·subst h;rfl
 rw [B_ h,An om,An om,B_ h]
end
section
variable {nd:Int}{es:List Pt}
theorem Z9{a b c d:Int}(h:j4 a b=j4 c d):(a=c/\b=d)\/(a=d/\b=c):=by
 unfold j4 at h
 rw [Dd] at h
 simp only at h
 obtain ⟨h1,M⟩:=h
 repeat (first|omega|split at h1|split at M)
theorem K9{e:Pt}(h:e.u<e.v):j4 e.u e.v=e:=by
 unfold j4
 rw [An om,B_ h]
theorem L4(M:s8 nd es){u v:Int}(h:u≠v):w∈j3 nd es u v↔j4 u w∈es/\j4 v w∈es:=by
 have hm:∀x:Int,w∈nbG nd es x↔j4 x w∈es:=λx=>by
  unfold nbG
  rw [An (by rw [s4.2 M];decide),af5,an6]
  constructor
  ·rintro (h|h)
   ·have:=(M.aa9 _ h).2.1
    rw [←K9 this] at h;exact h
   have:=(M.aa9 _ h).2.1
   rw [←K9 this,P9] at h;exact h
  intro h
  have hlt:=(M.aa9 _ h).2.1
  rcases Ma x w with h1|h1|h1
  ·have e:j4 x w=⟨x,w⟩:=K9 (e:=⟨x,w⟩) h1
   exact .inl<|e▸h
  ·subst h1;unfold j4 at hlt;simp at hlt
  have e:j4 x w=⟨w,x⟩:=by rw [P9];exact K9 (e:=⟨w,x⟩) h1
  exact .inr<|e▸h
 unfold j3
 rw [An h,T3,hm,hm]
theorem ao1(M:s8 nd es){u:Int}(h:j4 u w∈es):u≠w:=λe=>by
 subst e
 have:=(M.aa9 _ h).2.1
 unfold j4 at this;simp at this
theorem be7(hG:s8 nd es){e:Pt}(h:e∈es):(es.idxOf e)<es.length/\e_ es ((es.idxOf e:Nat):Int)=e:=by
 have M:=Ko h
 exact ⟨M,by rw [Ct _ _ M];exact List.getElem_idxOf M⟩
theorem idx_eq(hG:s8 nd es){i:Nat}(h:i<es.length):es.idxOf (e_ es i)=i:=by
 have hm:=Bo (xs:=es) (i:=(i:Int)) om om
 obtain ⟨h1,M⟩:=be7 hG hm
 generalize es.idxOf (e_ es i)=k at h1 M
 have hn:=Fi hG.asc
 rw [Ct _ _ h1,Ct _ i h] at M
 rcases Ks k i with h3|h3|h3
 ·exact absurd M<|(Hc.1 hn) k i h1 h h3
 ·exact h3
 exact absurd M.symm<|(Hc.1 hn) i k h h1 h3
theorem ai9(M:s8 nd es){e f:Pt}(he:e∈es)(hf:f∈es)(h:es.idxOf e=es.idxOf f):e=f:=by
 rw [←(be7 M he).2,←(be7 M hf).2,h]
theorem bv6{i:Int}(M:0<=i)(h1:i<es.length):e_ (G2 nd es) i=ah5 nd es (e_ es i):=by
 obtain ⟨k,rfl⟩:=Hq M
 unfold G2
 rw [Ct _ k (by rw [Ge];omega),Ct _ k om,Jn]
theorem aq9(hG:s8 nd es){e:Pt}(he:e∈es){p:Pt}:p∈ah5 nd es e↔∃w,j4 e.u w∈es/\j4 e.v w∈es/\p=⟨((es.idxOf (j4 e.u w):Nat):Int),((es.idxOf (j4 e.v w):Nat):Int)⟩:=by
 have hlt:=(hG.aa9 e he).2.1
 unfold ah5
 rw [H1]
 constructor
 ·rintro ⟨w,hw,rfl⟩
  obtain ⟨h1,M⟩:=(L4 hG om).1 hw
  exact ⟨w,h1,M,rfl⟩
 rintro ⟨w,h1,M,rfl⟩
 exact ⟨w,(L4 hG om).2 ⟨h1,M⟩,rfl⟩
theorem cj1(hG:s8 nd es)(M:j4 x y∈es)(hx:j4 x w∈es)(hy:j4 y w∈es):fb4 (G2 nd es) ((es.idxOf (j4 x y):Nat):Int) ((es.idxOf (j4 x w):Nat):Int) ((es.idxOf (j4 y w):Nat):Int):=by
 obtain ⟨h1,h2⟩:=be7 hG M
 unfold fb4
 rw [bv6 om om,h2,aq9 hG M,aq9 hG M]
 rcases Ma x y with h|h|h
 ·have e:j4 x y=⟨x,y⟩:=K9 (e:=⟨x,y⟩) h
  rw [e]
  exact .inl ⟨w,hx,hy,rfl⟩
 ·exact absurd h<|ao1 hG M
 have e:j4 x y=⟨y,x⟩:=by rw [P9];exact K9 (e:=⟨y,x⟩) h
 rw [e]
 exact .inr ⟨w,hy,hx,rfl⟩
theorem dr7(M:s8 nd es):cw2 (G2 nd es):=by
 have hl:(G2 nd es).length=es.length:=Ge ..
 refine ⟨λi h0 h1 p hp=>?_,λi a b h0 h1 hT=>?_,λi h0 h1=>?_⟩
 ·rw [hl] at h1
  have he:=Bo h0 h1
  have hlt:=(M.aa9 _ he).2.1
  rw [bv6 h0 h1,aq9 M he] at hp
  obtain ⟨w,hu,hv,rfl⟩:=hp
  have a1:=(be7 M hu).1
  have a2:=(be7 M hv).1
  have n1:=ao1 M hu
  have n2:=ao1 M hv
  have hi:es.idxOf (e_ es i)=i.toNat:=by
   obtain ⟨k,rfl⟩:=Hq h0
   rw [idx_eq M om];simp
  refine ⟨by simp only;omega,λe=>?_,λe=>?_,λe=>?_⟩
  ·have:=Z9 (ai9 M hu hv<|by simp only at e;omega);omega
  ·have h3:=ai9 M hu he (by simp only at e;omega)
   rw [←K9 hlt] at h3
   have:=Z9 h3;omega
  have h3:=ai9 M hv he (by simp only at e;omega)
  rw [←K9 hlt] at h3
  have:=Z9 h3;omega
 ·rw [hl] at h1
  have he:=Bo h0 h1
  have hlt:=(M.aa9 _ he).2.1
  have hi:i=((es.idxOf (j4 (e_ es i).u (e_ es i).v):Nat):Int):=by
   rw [K9 hlt]
   obtain ⟨k,rfl⟩:=Hq h0
   rw [idx_eq M om]
  have ab:j4 (e_ es i).u (e_ es i).v∈es:=by rw [K9 hlt];exact he
  unfold fb4 at hT
  rw [bv6 h0 h1,aq9 M he,aq9 M he] at hT
  rcases hT with ⟨w,hu,hv,e⟩|⟨w,hu,hv,e⟩
  ·rw [Dd] at e
   obtain ⟨e1,e2⟩:=e
   simp only at e1 e2
   rw [e1,e2]
   have:=cj1 M (x:=(e_ es i).u) (y:=w) (w:=(e_ es i).v) hu ab (by rw [P9];exact hv)
   rw [P9 w,←hi] at this;exact this
  rw [Dd] at e
  obtain ⟨e1,e2⟩:=e
  simp only at e1 e2
  rw [e1,e2]
  have:=cj1 M (x:=(e_ es i).v) (y:=w) (w:=(e_ es i).u) hv (by rw [P9];exact ab) (by rw [P9];exact hu)
  rw [P9 w,P9 (e_ es i).v (e_ es i).u,←hi] at this;exact this
 rw [hl] at h1
 have he:=Bo h0 h1
 have hlt:=(M.aa9 _ he).2.1
 rw [bv6 h0 h1]
 unfold ah5
 have aa:(j3 nd es (e_ es i).u (e_ es i).v).Pairwise (λx0 x1:Int=>x0<x1):=by
  unfold j3;split
  ·exact List.Pairwise.nil
  unfold Z6;exact (T1 _).sublist Hi
 refine Mv.2<|List.Pairwise.imp_of_mem (fun {w z} hw hz ad=>?_) aa
 obtain ⟨w1,w2⟩:=(L4 M om).1 hw
 obtain ⟨z1,z2⟩:=(L4 M om).1 hz
 have q1:=ao1 M w1
 have q2:=ao1 M w2
 have q3:=ao1 M z1
 have q4:=ao1 M z2
 refine ⟨λe=>?_,λe=>?_,λe=>?_,λe=>?_⟩
 ·have:=Z9 (ai9 M w1 z1<|by simp only at e;omega);omega
 ·have:=Z9 (ai9 M w1 z2<|by simp only at e;omega);omega
 ·have:=Z9 (ai9 M w2 z1<|by simp only at e;omega);omega
 have:=Z9 (ai9 M w2 z2<|by simp only at e;omega);omega
end
section
variable {nd:Int}{es es':List Pt}{u v:Int}
def dr6(nd:Int)(es:List Pt)(e:Pt):List (Pt×Pt):=(j3 nd es e.u e.v).map λw=>(j4 e.u w,j4 e.v w)
def bo7(nd:Int)(es:List Pt)(e:Pt):Nat:=(e_ (j5 nd es) ((es.idxOf e:Nat):Int)).toNat
theorem bv2(M:s8 nd es):j5 nd es=ax5 (G2 nd es):=An (by rw [s4.2 M];decide)
theorem fk0(hG:s8 nd es){e:Pt}(M:e∈es):∀p∈dr6 nd es e,p.1∈es/\p.2∈es:=λp hp=>by
 obtain ⟨w,hw,rfl⟩:=H1.1 hp
 exact ak8 hG M hw
theorem ap3(hG:s8 nd es):bu3 (λe=>e∈es) (dr6 nd es) (bo7 nd es):=by
 have h1:=bv3 (dr7 hG) (db2 (dr7 hG)<|au6 hG)
 have hl:(G2 nd es).length=es.length:=Ge ..
 have h2:=h1.move (E:=λe=>e∈es) (tri:=dr6 nd es) (λe=>((es.idxOf e:Nat):Int)) (λe M=>by have:=Ko M;constructor<;>omega) (λe e' M aa h=>ai9 hG M aa om)
  (λb hb=>⟨e_ es b,Bo hb.1 om,by
   obtain ⟨k,rfl⟩:=Hq hb.1
   show ((es.idxOf (e_ es k):Nat):Int)=(k:Int)
   rw [idx_eq hG om]⟩)
  (λe M=>fk0 hG M) (λe M=>by
   have hlt:=Ko M
   unfold da1 dr6
   rw [bv6 om om,(be7 hG M).2]
   unfold ah5
   rw [List.map_map,List.map_map]
   rfl)
 intro e M k
 have:=h2 e M k
 unfold bo7
 rw [bv2 hG]
 exact this
theorem aj4(X:Pt->Bool)(e:Pt):cc8 (dr6 nd es) X e=((j3 nd es e.u e.v).filter λw=>X (j4 e.u w)&&X (j4 e.v w)).length:=by
 unfold cc8 dr6
 rw [Le,Ge]
 rfl
theorem H5(nd:Int)(es:List Pt)(x y:Int):(j3 nd es x y).Nodup:=by
 unfold j3
 split
 ·exact List.nodup_nil
 unfold Z6;exact ((T1 _).imp λh=>by omega:(ofL<|nbG nd es x).Nodup).filter _
theorem R7.cnt(h:R7 nd es es' u v){e:Pt}(he:e∈es')(ae:e≠j4 u v){X Y:Pt->Bool}(ad:∀f,X f=true->f≠j4 u v->Y f=true):cc8 (dr6 nd es') X e<=cc8 (dr6 nd es) Y e+1:=by
 have ah:=h.ok'.aa9 e he
 rw [aj4,aj4]
 have ab:=h.ends
 unfold F5 at ab
 have h1:∀w∈(j3 nd es' e.u e.v).filter (λw=>X (j4 e.u w)&&X (j4 e.v w)),w∈(if e.u=u then v else if e.u=v then u else if e.v=u then v else u)::(j3 nd es e.u e.v).filter λw=>Y (j4 e.u w)&&Y (j4 e.v w):=λw hw=>by
  obtain ⟨w1,w2⟩:=Gp.1 hw
  obtain ⟨w3,w4⟩:=L8.1 w2
  obtain ⟨m1,m2⟩:=(L4 h.ok' om).1 w1
  by_cases q:j4 e.u w≠j4 u v/\j4 e.v w≠j4 u v
  ·refine C_ _ (Gp.2 ⟨(L4 h.ok om).2 ⟨?_,?_⟩,L8.2 ⟨ad _ w3 q.1,ad _ w4 q.2⟩⟩)
   ·exact ((h.mem _).1 m1).resolve_right q.1
   exact ((h.mem _).1 m2).resolve_right q.2
  have two:∀a b:Int,j4 a b=j4 u v->(a=u/\b=v)\/(a=v/\b=u):=λa b M=>by
   rw [Dd] at M
   unfold j4 at M
   simp only at M
   split at M<;>split at M<;>split at M<;>split at M<;>omega
  have aa:¬((e.u=u/\e.v=v)\/(e.u=v/\e.v=u)):=λq2=>ae (by
   rw [Dd]
   unfold j4
   simp only
   split<;>split<;>omega)
  have:w=if e.u=u then v else if e.u=v then u else if e.v=u then v else u:=by
   have q':j4 e.u w=j4 u v\/j4 e.v w=j4 u v:=Gg λq3=>q ⟨λq4=>q3<|.inl q4,λq4=>q3<|.inr q4⟩
   rcases q' with q'|q'
   ·rcases two _ _ q' with ⟨a,b⟩|⟨a,b⟩
    ·rw [B_ a];exact b
    rw [An om,B_ a];exact b
   rcases two _ _ q' with ⟨a,b⟩|⟨a,b⟩
   ·by_cases c1:e.u=u
    ·omega
    by_cases c2:e.u=v
    ·exact absurd (.inr ⟨c2,a⟩) aa
    rw [An c1,An c2,B_ a];exact b
   by_cases c1:e.u=u
   ·exact absurd (.inl ⟨c1,a⟩) aa
   by_cases c2:e.u=v
   ·omega
   rw [An c1,An c2,An om];exact b
  rw [this];exact A_
 have:=Ho ((H5 nd es' e.u e.v).filter _) h1
 simpa using this
theorem R7.fz7(h:R7 nd es es' u v){e:Pt}(he:e∈es)(X:Pt->Bool):cc8 (dr6 nd es) X e<=cc8 (dr6 nd es') X e:=by
 have M:=h.ok.aa9 e he
 rw [aj4,aj4]
 refine Ho ((H5 nd es e.u e.v).filter _) λw hw=>?_
 obtain ⟨w1,w2⟩:=Gp.1 hw
 obtain ⟨m1,m2⟩:=(L4 h.ok om).1 w1
 exact Gp.2 ⟨(L4 h.ok' om).2 ⟨(h.mem _).2 (.inl m1),(h.mem _).2 (.inl m2)⟩,w2⟩
theorem R7.fu4(h:R7 nd es es' u v){e:Pt}(he:e∈es):bo7 nd es e<=bo7 nd es' e/\bo7 nd es' e<=bo7 nd es e+1:=by
 have aa:e≠j4 u v:=λq=>h.no (q▸he)
 exact ⟨fu8 (ap3 h.ok') (ap3 h.ok) (λf M=>(h.mem f).2 (.inl M)) (λf M X=>h.fz7 M X) he,
  fu6 (ap3 h.ok) (ap3 h.ok') (j4 u v) (λf M hn=>((h.mem f).1 M).resolve_right hn) (λf M hn X Y ab=>h.cnt M hn ab) ((h.mem e).2 (.inl he)) aa⟩
theorem R7.db0(h:R7 nd es es' u v):bo7 nd es' (j4 u v)<=(j3 nd es' u v).length:=by
 have hm:j4 u v∈es':=(h.mem _).2 (.inr rfl)
 obtain ⟨X,h1,h2⟩:=(ap3 h.ok' _ hm _).1 (Gi _)
 have h3:=h1.deg _ h2
 rw [aj4] at h3
 refine Hd h3<|Hd (G_ _ _) ?_
 have aa:u≠v:=by have:=h.ends;unfold F5 at this;omega
 refine Ho (H5 _ _ _ _) λw hw=>?_
 have hu:(j4 u v).u≠(j4 u v).v:=by have:=h.ok'.aa9 _ hm;omega
 obtain ⟨M,m2⟩:=(L4 h.ok' hu).1 hw
 rw [L4 h.ok' aa]
 rcases co3 h.ends with ⟨q,_⟩|⟨q,_⟩
 ·rw [q] at M m2;exact ⟨M,m2⟩
 rw [q] at M m2;exact ⟨m2,M⟩
end
theorem ap6(g:Nat->Int):∀{l:List Int},l.Nodup->(∀x∈l,0<=x/\x<(n:Int))->(l.map λx=>g x.toNat).sum=p8 n λj=>if (j:Int)∈l then g j else 0
 |[],_,_=>by rw [Es n (λj _=>An<|by simp)];rfl
 |x::l,hn,hr=>by
  obtain ⟨h1,h2⟩:=Jb.1 hn
  have hx:=hr x A_
  rw [Hk,Jg,ap6 g h2 λy hy=>hr y<|C_ _ hy]
  have e1:p8 n (λj=>if (j:Int)∈x::l then g j else 0)=p8 n λj=>(if j=x.toNat then g x.toNat else 0)+if (j:Int)∈l then g j else 0:=Bz n λj hj=>by
   by_cases hq:j=x.toNat
   ·have M:(j:Int)=x:=by omega
    rw [B_ (by rw [M];exact A_),B_ hq,An<|by rw [M];exact h1,hq];omega
   have M:(j:Int)≠x:=by omega
   rw [An hq,Mq]
   by_cases hm:(j:Int)∈l
   ·rw [B_ hm,B_<|C_ _ hm]
   rw [An hm,An<|λq=>(F_.1 q).elim M hm]
  rw [e1,F9,R8 om]
theorem cm6{l:List Int}(hn:l.Nodup)(M:∀x∈l,0<=x/\x<(n:Int)):(l.length:Int)=p8 n λj=>ind (decide ((j:Int)∈l)):=by
 have:=ap6 (n:=n) (λ_=>1) hn M
 have e:∀l:List Int,(l.map λ_=>(1:Int)).sum=(l.length:Int):=λl=>by
  induction l with
  |nil=>rfl
  |cons x l ih=>rw [Hk,Jg,ih,E_];omega
 rw [e] at this
 rw [this]
 exact Bz n λj _=>(E6 _).symm
theorem bv8(g:Nat->Nat->Int):∀{es:List Pt},es.Nodup->(∀p∈es,(0<=p.u/\p.u<(n:Int))/\0<=p.v/\p.v<(n:Int))->(es.map λp=>g p.u.toNat p.v.toNat).sum=p8 n λx=>p8 n λy=>if (⟨(x:Int),(y:Int)⟩:Pt)∈es then g x y else 0
 |[],_,_=>by rw [Es n (λx _=>Es n λy _=>An<|by simp)];rfl
 |p::es,hn,hr=>by
  obtain ⟨h1,h2⟩:=Jb.1 hn
  have hp:=hr p A_
  rw [Hk,Jg,bv8 g h2 λy hy=>hr y<|C_ _ hy]
  have e1:(p8 n λx=>p8 n λy=>if (⟨(x:Int),(y:Int)⟩:Pt)∈p::es then g x y else 0)=p8 n λx=>(if x=p.u.toNat then g p.u.toNat p.v.toNat else 0)+p8 n λy=>if (⟨(x:Int),(y:Int)⟩:Pt)∈es then g x y else 0:=Bz n λx hx=>by
   by_cases hq:x=p.u.toNat
   ·rw [B_ hq]
    have e2:(p8 n λy=>if (⟨(x:Int),(y:Int)⟩:Pt)∈p::es then g x y else 0)=p8 n λy=>(if y=p.v.toNat then g p.u.toNat p.v.toNat else 0)+if (⟨(x:Int),(y:Int)⟩:Pt)∈es then g x y else 0:=Bz n λy hy=>by
     by_cases hr2:y=p.v.toNat
     ·have M:(⟨(x:Int),(y:Int)⟩:Pt)=p:=by rw [Dd];simp only;omega
      rw [B_ (by rw [M];exact A_),B_ hr2,An<|by rw [M];exact h1,hq,hr2];omega
     have M:(⟨(x:Int),(y:Int)⟩:Pt)≠p:=λq=>by rw [Dd] at q;simp only at q;omega
     rw [An hr2,Mq]
     by_cases hm:(⟨(x:Int),(y:Int)⟩:Pt)∈es
     ·rw [B_ hm,B_<|C_ _ hm]
     rw [An hm,An<|λq=>(F_.1 q).elim M hm]
    rw [e2,F9,R8 om]
   rw [An hq,Mq]
   refine Bz n λy hy=>?_
   have M:(⟨(x:Int),(y:Int)⟩:Pt)≠p:=λq=>by rw [Dd] at q;simp only at q;omega
   by_cases hm:(⟨(x:Int),(y:Int)⟩:Pt)∈es
   ·rw [B_ hm,B_<|C_ _ hm]
   rw [An hm,An<|λq=>(F_.1 q).elim M hm]
  rw [e1,F9,R8 om]
section
variable {nd:Int}{es es':List Pt}{u v:Int}
def N2(nd:Int)(es:List Pt)(x y:Nat):Bool:=decide (((y:Int))∈nbG nd es (x:Int))
theorem ag2(M:s8 nd es):fs3 nd.toNat (N2 nd es):=
 ⟨λx y=>by unfold N2;rw [Fw];exact ⟨λh=>ai3 M h,λh=>ai3 M h⟩,λx=>D_ λh=>(N4 M h).2.2 rfl⟩
theorem R7.adj(h:R7 nd es es' u v):L5 nd.toNat (N2 nd es) (N2 nd es') u.toNat v.toNat:=by
 have M:=h.ends
 unfold F5 at M
 refine ⟨ag2 h.ok,by omega,by omega,by omega,?_,λx y=>?_⟩
 ·unfold N2
  rw [Hb M.1,Hb M.2.1]
  exact D_ h.nuv.1
 unfold N2
 rw [Kd,Gt,h.nb,Km,Km,Gt,Gt,Gt]
 refine or_congr Iff.rfl<|or_congr ?_ ?_
 ·omega
 omega
theorem fp5(M:s8 nd es)(x y:Nat):N2 nd es x y=(decide ((⟨(x:Int),(y:Int)⟩:Pt)∈es)||decide ((⟨(y:Int),(x:Int)⟩:Pt)∈es)):=by
 unfold N2
 rw [Kd,Gt,ag7 M,Km,Gt,Gt]
theorem bv9(hG:s8 nd es)(g:Nat->Nat->Int)(hg:∀x y,g x y=g y x):2*(es.map λp=>g p.u.toNat p.v.toNat).sum=p8 nd.toNat λx=>p8 nd.toNat λy=>if N2 nd es x y=true then g x y else 0:=by
 have hr:∀p∈es,(0<=p.u/\p.u<(nd.toNat:Int))/\0<=p.v/\p.v<(nd.toNat:Int):=λp hp=>by have:=hG.aa9 p hp;omega
 have h1:=bv8 (n:=nd.toNat) g (Fi hG.asc) hr
 have h2:(es.map λp=>g p.u.toNat p.v.toNat).sum=p8 nd.toNat λx=>p8 nd.toNat λy=>if (⟨(y:Int),(x:Int)⟩:Pt)∈es then g x y else 0:=by
  rw [h1,G6]
  exact Bz _ λy _=>Bz _ λx _=>by rw [hg x y]
 have h3:(p8 nd.toNat λx=>p8 nd.toNat λy=>if N2 nd es x y=true then g x y else 0)=(p8 nd.toNat λx=>p8 nd.toNat λy=>if (⟨(x:Int),(y:Int)⟩:Pt)∈es then g x y else 0)+p8 nd.toNat λx=>p8 nd.toNat λy=>if (⟨(y:Int),(x:Int)⟩:Pt)∈es then g x y else 0:=by
  rw [←F9]
  refine Bz _ λx _=>?_
  rw [←F9]
  refine Bz _ λy _=>?_
  have M:N2 nd es x y=true↔(⟨(x:Int),(y:Int)⟩:Pt)∈es\/(⟨(y:Int),(x:Int)⟩:Pt)∈es:=by rw [fp5 hG,Km,Gt,Gt]
  by_cases q1:(⟨(x:Int),(y:Int)⟩:Pt)∈es
  ·have q2:¬(⟨(y:Int),(x:Int)⟩:Pt)∈es:=λq2=>by have:=hG.aa9 _ q1;have:=hG.aa9 _ q2;simp only at *; omega
   rw [B_ (M.2<|.inl q1),B_ q1,An q2];omega
  by_cases q2:(⟨(y:Int),(x:Int)⟩:Pt)∈es
  ·rw [B_ (M.2<|.inr q2),An q1,B_ q2];omega
  rw [An (λq=>(M.1 q).elim q1 q2),An q1,An q2];rfl
 rw [h3,←h1,←h2];omega
theorem R0(hG:s8 nd es)(M:x≠y):w∈j3 nd es x y↔w∈nbG nd es x/\w∈nbG nd es y:=by
 unfold j3;rw [An M,T3]
def ds6(nd:Int)(es:List Pt)(w:Int):Int:=(es.map λp=>ind (decide (w∈j3 nd es p.u p.v))).sum
theorem cj0(M:s8 nd es)(w:Nat):2*ds6 nd es (w:Int)=cc5 nd.toNat (N2 nd es) w:=by
 have h1:ds6 nd es (w:Int)=(es.map λp=>ind<|N2 nd es w p.u.toNat&&N2 nd es w p.v.toNat).sum:=by
  unfold ds6
  congr 1
  refine Kw λp hp=>?_
  have he:=M.aa9 p hp
  congr 1
  unfold N2
  rw [Hb he.1,Hb (show 0<=p.v by omega),Kd,Gt,R0 M om,Hh,Gt,Gt]
  exact and_congr ⟨λh=>ai3 M h,λh=>ai3 M h⟩ ⟨λh=>ai3 M h,λh=>ai3 M h⟩
 rw [h1,bv9 M (λx y=>ind<|N2 nd es w x&&N2 nd es w y) λx y=>by rw [Ln]]
 unfold cc5
 refine Bz _ λx _=>Bz _ λy _=>?_
 cases N2 nd es x y with
 |true=>rw [B_ rfl,Kq]
 |false=>rw [An dc,Jx];rfl
theorem bz3(hG:s8 nd es)(hx:q7 nd x)(hy:q7 nd y)(M:x≠y):((j3 nd es x y).length:Int)=coN nd.toNat (N2 nd es) x.toNat y.toNat:=by
 have hr:∀w∈j3 nd es x y,0<=w/\w<(nd.toNat:Int):=λw hw=>by
  have:=N4 hG ((R0 hG M).1 hw).1;omega
 unfold q7 at hx hy
 rw [cm6 (H5 nd es x y) hr]
 unfold coN
 rw [An om]
 refine Bz _ λj _=>?_
 congr 1
 unfold N2
 rw [Hb hx.1,Hb hy.1,Kd,Gt,R0 hG M,Hh,Gt,Gt]
theorem cj2(M:s8 nd es):p8 nd.toNat (cc5 nd.toNat (N2 nd es))=2*V6 nd es:=by
 have h1:V6 nd es=(es.map λp=>coN nd.toNat (N2 nd es) p.u.toNat p.v.toNat).sum:=by
  unfold V6
  congr 1
  refine Kw λp hp=>?_
  have he:=M.aa9 p hp
  exact bz3 M ⟨he.1,by omega⟩ ⟨by omega,he.2.2⟩ om
 rw [h1,bv9 M _ λx y=>aw8 (ag2 M) x y]
 unfold cc5
 rw [G6]
 refine Bz _ λx _=>?_
 rw [G6]
 refine Bz _ λy _=>?_
 cases hxy:N2 nd es x y with
 |true=>
  rw [B_ rfl]
  unfold coN
  rw [An (λq=>by rw [q,(ag2 M).irr] at hxy;cases hxy)]
  refine Bz _ λw _=>?_
  rw [Kq,(ag2 M).sym w x,(ag2 M).sym w y]
 |false=>rw [An dc];exact Es _ λw _=>by rw [Jx];rfl
theorem R7.tri(h:R7 nd es es' u v):V6 nd es'=V6 nd es+3*((j3 nd es u v).length:Int)/\∀w:Nat,ds6 nd es' (w:Int)=ds6 nd es (w:Int)+(if (w:Int)∈j3 nd es u v then 1 else 0)+((if (w:Int)=u then ((j3 nd es u v).length:Int) else 0)+if (w:Int)=v then ((j3 nd es u v).length:Int) else 0):=by
 have M:=h.ends
 unfold F5 at M
 have aa:u≠v:=M.2.2.2.2
 have hc:=bz3 h.ok (x:=u) (y:=v) ⟨M.1,M.2.2.1⟩ ⟨M.2.1,M.2.2.2.1⟩ aa
 have h1:=h.adj.fj9
 rw [cj2 h.ok,cj2 h.ok',←hc] at h1
 refine ⟨by omega,λw=>?_⟩
 have h2:=h.adj.tri w
 rw [←cj0 h.ok,←cj0 h.ok',←hc] at h2
 have h3:ind (N2 nd es u.toNat w&&N2 nd es v.toNat w)=if (w:Int)∈j3 nd es u v then 1 else 0:=by
  rw [←E6];congr 1
  unfold N2
  rw [Hb M.1,Hb M.2.1,Kd,Hh,Gt,Gt,Gt,R0 h.ok aa]
 rw [h3] at h2
 have e1:(w=u.toNat)↔((w:Int)=u):=by omega
 have e2:(w=v.toNat)↔((w:Int)=v):=by omega
 by_cases q1:(w:Int)=u
 ·rw [B_ (e1.2 q1)] at h2;rw [B_ q1]
  by_cases q2:(w:Int)=v
  ·omega
  rw [An (λq=>q2<|e2.1 q)] at h2;rw [An q2];omega
 rw [An (λq=>q1<|e1.1 q)] at h2;rw [An q1]
 by_cases q2:(w:Int)=v
 ·rw [B_ (e2.2 q2)] at h2;rw [B_ q2];omega
 rw [An (λq=>q2<|e2.1 q)] at h2;rw [An q2];omega
end
theorem bc0{α β:Type}(f:β->Int)(h:α->List β):∀l:List α,((l.flatMap h).map f).sum=(l.map λa=>((h a).map f).sum).sum
 |[]=>rfl
 |a::l=>by rw [List.flatMap_cons,Hv,List.sum_append,Hk,Jg,bc0 f h l]
section
variable {nd:Int}{es es':List Pt}{u v:Int}
def bd3(nd:Int)(es:List Pt)(u v a:Int):List Pt:=if a=v then [] else ((nbG nd es v).filter λb=>decide (b≠u/\b∈nbG nd es a)).map λb=>(⟨a,b⟩:Pt)
def p7(nd:Int)(es:List Pt)(u v:Int):List Pt:=(nbG nd es u).flatMap (bd3 nd es u v)
theorem dw0(hG:s8 nd es):∀y∈nbG nd es x,0<=y/\y<(nd.toNat:Int):=λy M=>by have:=(N4 hG M).2.1;omega
theorem ck6(hG:s8 nd es)(hu:q7 nd u)(hv:q7 nd v)(aa:v∉nbG nd es u)(f:Nat->Nat->Int) :
  ((p7 nd es u v).map λp=>f p.u.toNat p.v.toNat).sum=p8 nd.toNat λa=>p8 nd.toNat λb=>if ovr (N2 nd es) u.toNat v.toNat a b=true then f a b else 0:=by
 unfold q7 at hu hv
 unfold p7
 rw [bc0]
 have h1:(nbG nd es u).map (λa=>((bd3 nd es u v a).map λp=>f p.u.toNat p.v.toNat).sum)=(nbG nd es u).map λa=>(λa':Nat=>p8 nd.toNat λb=>if (N2 nd es v.toNat b&&N2 nd es a' b)=true then f a' b else 0) a.toNat:=Kw λa ha=>by
  have ad:=(N4 hG ha).2.1
  have ab:¬a=v:=λq=>aa (q▸ha)
  unfold bd3
  rw [An ab,List.map_map]
  have hn:=((ab9 nd es v).filter λb=>decide<|b≠u/\b∈nbG nd es a)
  have h2:=ap6 (n:=nd.toNat) (λb=>f a.toNat b) hn λb hb=>dw0 hG b (Gp.1 hb).1
  refine Eq.trans ?_<|h2.trans<|Bz _ λb hb=>?_
  ·rfl
  have M:((b:Int)∈(nbG nd es v).filter λb=>decide<|b≠u/\b∈nbG nd es a)↔(N2 nd es v.toNat b&&N2 nd es a.toNat b)=true:=by
   unfold N2
   rw [Hb hv.1,Hb ad.1,Hh,Gt,Gt,Gp,Gt]
   constructor
   ·rintro ⟨h3,_,h4⟩;exact ⟨h3,h4⟩
   rintro ⟨h3,h4⟩
   exact ⟨h3,λq=>aa<|ai3 hG<|q▸h3,h4⟩
  by_cases hq:(N2 nd es v.toNat b&&N2 nd es a.toNat b)=true
  ·rw [B_ (M.2 hq),B_ hq]
  rw [An (λq=>hq<|M.1 q),An hq]
 rw [h1]
 refine (ap6 (n:=nd.toNat) (λa':Nat=>p8 nd.toNat λb=>if (N2 nd es v.toNat b&&N2 nd es a' b)=true then f a' b else 0) (ab9 nd es u)<|dw0 hG).trans (Bz _ λa ha=>?_)
 have M:((a:Int)∈nbG nd es u)↔N2 nd es u.toNat a=true:=by
  unfold N2;rw [Hb hu.1,Gt]
 unfold ovr
 by_cases hq:N2 nd es u.toNat a=true
 ·rw [B_ (M.2 hq)]
  exact Bz _ λb hb=>by rw [hq,Kq]
 rw [An (λq=>hq<|M.1 q)]
 have hf:N2 nd es u.toNat a=false:=by cases e:N2 nd es u.toNat a with |false=>rfl|true=>exact absurd e hq
 exact (Es _ λb hb=>by rw [hf,Jx,Jx];rfl).symm
theorem du8(hG:s8 nd es)(hu:q7 nd u)(hv:q7 nd v)(M:v∉nbG nd es u):((p7 nd es u v).length:Int)=gb9 nd.toNat (N2 nd es) u.toNat v.toNat:=by
 have h1:=ck6 hG hu hv M λ_ _=>1
 have e:∀l:List Pt,(l.map λ_=>(1:Int)).sum=(l.length:Int):=λl=>by
  induction l with
  |nil=>rfl
  |cons x l ih=>rw [Hk,Jg,ih,E_];omega
 rw [e] at h1
 rw [h1]
 unfold gb9 ind
 rfl
theorem br1(hG:s8 nd es){p:Pt}(h:p∈p7 nd es u v):q7 nd p.u/\q7 nd p.v:=by
 unfold p7 at h
 obtain ⟨a,ha,M⟩:=Ky.1 h
 unfold bd3 at M
 split at M
 ·cases M
 obtain ⟨b,hb,rfl⟩:=H1.1 M
 exact ⟨(N4 hG ha).2.1,(N4 hG (Gp.1 hb).1).2.1⟩
theorem du7(hG:s8 nd es)(hu:q7 nd u)(hv:q7 nd v)(M:v∉nbG nd es u)(w:Nat) :
  ((p7 nd es u v).map λp=>(((ind (decide<|u=(w:Int))+ind (decide<|v=(w:Int)))+ind (decide<|p.u=(w:Int)))+ind (decide<|p.v=(w:Int)))).sum=occ nd.toNat (N2 nd es) u.toNat v.toNat w:=by
 have h1:=ck6 hG hu hv M λa b=>(((ind (decide<|u.toNat=w)+ind (decide<|v.toNat=w))+ind (decide<|a=w))+ind (decide<|b=w))
 unfold occ
 rw [←h1]
 congr 1
 unfold q7 at hu hv
 refine Kw λp hp=>?_
 have hr:=br1 hG hp
 unfold q7 at hr
 have e1:decide (u=(w:Int))=decide (u.toNat=w):=by rw [Fw];omega
 have e2:decide (v=(w:Int))=decide (v.toNat=w):=by rw [Fw];omega
 have e3:decide (p.u=(w:Int))=decide (p.u.toNat=w):=by rw [Fw];omega
 have e4:decide (p.v=(w:Int))=decide (p.v.toNat=w):=by rw [Fw];omega
 rw [e1,e2,e3,e4]
def am4(nd:Int)(es:List Pt)(w:Nat):Int:=ai1 nd.toNat (N2 nd es) w
def J9(nd:Int)(es:List Pt):Int:=bw3 nd.toNat (N2 nd es)
def F8(nd:Int)(es:List Pt):Int:=p8 nd.toNat λw=>prs ((nbG nd es (w:Int)).length:Int)
theorem cg1(M:s8 nd es)(x:Nat):dz2 nd.toNat (N2 nd es) x=((nbG nd es (x:Int)).length:Int):=by
 rw [cm6 (ab9 nd es (x:Int)) (dw0 M)];rfl
theorem R7.fs5(h:R7 nd es es' u v):J9 nd es'=J9 nd es+((p7 nd es u v).length:Int)/\(∀w:Nat,w<nd.toNat->am4 nd es' w=am4 nd es w+((p7 nd es u v).map λp=>(((ind (decide (u=(w:Int)))+ind (decide (v=(w:Int))))+ind (decide (p.u=(w:Int))))+ind (decide (p.v=(w:Int))))).sum)/\
  F8 nd es'=F8 nd es+(((nbG nd es u).length:Int)+((nbG nd es v).length:Int)):=by
 have M:=h.ends
 unfold F5 at M
 have hu:q7 nd u:=⟨M.1,M.2.2.1⟩
 have hv:q7 nd v:=⟨M.2.1,M.2.2.2.1⟩
 refine ⟨?_,λw hw=>?_,?_⟩
 ·unfold J9
  rw [h.adj.all,du8 h.ok hu hv h.nuv.1]
 ·unfold am4
  rw [h.adj.fs5 hw,du7 h.ok hu hv h.nuv.1]
 have h1:=h.adj.ft4
 have e1:∀{es:List Pt},s8 nd es->F8 nd es=p8 nd.toNat λw=>prs (dz2 nd.toNat (N2 nd es) w):=λhG=>by
  unfold F8;exact Bz _ λw _=>by rw [cg1 hG]
 rw [e1 h.ok',e1 h.ok,h1,cg1 h.ok,cg1 h.ok,Hb hu.1,Hb hv.1]
theorem cj8(M:s8 nd es):p8 nd.toNat (am4 nd es)=4*J9 nd es:=bd1 (ag2 M)
end
end Go.Sl
namespace Go.Sl
open Go.Proofs
set_option maxRecDepth 4000
variable{k:Int}
attribute [local irreducible] W G V D A j8 Eff
section
variable {nd:Int}{es:List Pt}
def bz5(nd:Int)(es:List Pt)(k:Int):List Int:=(j9 nd es).map λx=>min k x
theorem U0(nd:Int)(es:List Pt)(k:Int):(bz5 nd es k).length=(j9 nd es).length:=Ge ..
theorem G8(M:s8 nd es):((j9 nd es).length:Int)=nd:=by
 have hr:=M.rng
 have hl:=M.rows.len
 unfold j9
 rw [An (by rw [s4.2 M];decide),as5];omega
theorem bs7{u:Int}(M:0<=u)(h1:u<(j9 nd es).length):e_ (bz5 nd es k) u=min k (e_ (j9 nd es) u):=by
 obtain ⟨i,rfl⟩:=Hq M
 rw [Ct _ i (by rw [U0];omega),Ct _ i om]
 unfold bz5
 rw [Jn]
theorem dm6(M:s8 nd es):bz5 nd es 0=replicate (j9 nd es).length 0:=by
 have hl:=G8 M
 refine aj2 (by rw [U0,Gc]) λi hi=>?_
 rw [U0] at hi
 rw [bs7 om om,cp3 _ _ _ om om]
 have:=T7 M (u:=(i:Int)) om om
 omega
theorem fa5(M:s8 nd es)(h:1<=nd):bz5 nd es (nd - 1)=j9 nd es:=by
 have hl:=G8 M
 refine aj2 (U0 _ _ _) λi hi=>?_
 rw [U0] at hi
 rw [bs7 om om]
 have:=T7 M (u:=(i:Int)) om om
 omega
def cs5(l:List Int)(k:Int)(xs:List Int):List Int:=xs.foldl (λl v=>l.set v.toNat k) l
theorem bw4{l xs:List Int}{j:Nat}(h:j<xs.length):cs5 l k (xs.take (j+1))=(cs5 l k (xs.take j)).set (e_ xs j).toNat k:=by
 unfold cs5
 rw [Ca xs j h,Hf];rfl
theorem af2(k:Int):∀(xs l:List Int),(cs5 l k xs).length=l.length
 |[],l=>rfl
 |x::xs,l=>by
  show (cs5 (l.set x.toNat k) k xs).length=_
  rw [af2 k xs,Fs]
theorem cd8(k:Int):∀(xs l:List Int) (u:Int),(∀x∈xs,0<=x/\x<l.length)->0<=u->e_ (cs5 l k xs) u=if u∈xs then k else e_ l u
 |[],l,u,_,_=>rfl
 |x::xs,l,u,hx,hu=>by
  have M:=hx x A_
  show e_ (cs5 (l.set x.toNat k) k xs) u=_
  rw [cd8 k xs _ u (λy hy=>by rw [Fs];exact hx y<|C_ _ hy) hu,Ei _ _ _ _ M.1 hu M.2]
  by_cases h1:u∈xs
  ·rw [B_ h1,B_<|C_ _ h1]
  rw [An h1]
  by_cases h2:x=u
  ·subst h2;rw [B_ rfl,B_ A_]
  rw [An h2,An<|λh=>by rcases F_.1 h with h|h;(· exact h2 h.symm);(· exact h1 h)]
theorem fa4(hG:s8 nd es)(hk:1<=k):cs5 (bz5 nd es (k - 1)) k (U9 nd es k)=bz5 nd es k:=by
 have hl:=G8 hG
 refine aj2 (by rw [af2,U0,U0]) λi hi=>?_
 rw [af2,U0] at hi
 rw [cd8 k _ _ _ (λx M=>by rw [U0];exact (ai6.1 M).1) om,bs7 om om,bs7 om om]
 by_cases h:(i:Int)∈U9 nd es k
 ·rw [B_ h]
  have:=(ai6.1 h).2
  omega
 rw [An h]
 have:¬k<=e_ (j9 nd es) i:=λh2=>h (ai6.2 ⟨⟨by omega,by omega⟩,h2⟩)
 omega
end
theorem dk8(nd:Int)(es:List Pt)(k:Int):(U9 nd es k).length<=64:=by
 unfold U9
 exact Hd (bw1 _ _)<|bz0 nd es
theorem cb4{κ:Ctx}{I:List Item}{nd:Int}{va:Value}{es:List Pt}(hl:Sl κ I va es)(hG:s8 nd es)(hb:es.length<=1000000)(h1:1<=nd):eu Tryz.prog κ 19 [.agg #[e7 nd,va]] I (λr J=>∃a c,r = .tuple #[.slice a (j9 nd es).length c,e7 0]/\J=vk 3 a c (j9 nd es)::I):=by
 have hr:=hG.rng
 have aq:=G8 hG
 have ai:(j9 nd es).length=nd.toNat:=by omega
 refine Ce1 Tryz.func19 C C ?_
 refine Al<|Ge1 (Av (cs:=[_,_]) C C C) λb1=>Z ?_
 refine G.e (Ab c_ C C<|V2 (nd:=nd)<|A3 hl) ?_
 rintro _ _ ⟨_,_,⟨rfl,rfl⟩,rfl,rfl⟩
 refine Z ?_
 refine Ao C (λc12=>?_)<|λc12=>Z ?_
 ·exact absurd (s4.2 hG) c12
 refine Ge2 (Dm (α:=Int) (n:=nd.toNat) Ac ef C C C om om dc C) λM aa=>Z ?_
 refine B9 (σ:=Int) (λs=>([(1,pt b1),(5,.slice M (replicate nd.toNat (default:Int)).length aa),(6,e7 s)]:Env)) (λs=>vc 3 (.slice M (replicate nd.toNat (default:Int)).length aa) ((bz5 nd es<|s - 1))::e8 b1 [e7 nd,va] 38::I) (λs=>(1<=s/\(s<=nd\/s=1))) (λs=>(nd - s).toNat) 1 (show (1<=(1:Int)/\((1:Int)<=nd\/(1:Int)=1)) from om) (cx2<|Aa Cl Bb) (show Fit κ _ (vc 3 (.slice M (replicate nd.toNat (default:Int)).length aa) ((bz5 nd es<|(1) - 1))::e8 b1 [e7 nd,va] 38::I) from (by rw [show bz5 nd es (1 - 1)=replicate (j9 nd es).length 0 from dm6 hG,ai];exact Az)) ?_
 rintro q hp
 have hq:=hp
 have ap:=U0 nd es (q - 1)
 have av:=dk8 nd es q
 have an:∀x∈U9 nd es q,0<=x/\x<nd:=λx hx=>by have:=(ai6.1 hx).1;omega
 refine Z ?_
 refine Ao C (λaj=>Z ?_)<|λaj=>Z ?_
 ·refine G.e (Ab c_ C C<|dr0 (nd:=nd) (lv:=q) (A3 hl) hG om) ?_
  rintro _ _ ⟨_,_,⟨ah,ae,rfl,rfl⟩,rfl,rfl⟩
  refine Z ?_
  refine B9 (σ:=Nat×(List Int)) (λs=>([(1,pt b1),(5,.slice M (replicate nd.toNat (default:Int)).length aa),(6,e7 q),(25,.slice ah (U9 nd es q).length ae),(26,e7<|(((U9 nd es q).length:Nat):Int)),(27,e7 ((s.1:Nat):Int))]:Env)) (λs=>vc 3 (.slice M (replicate nd.toNat (default:Int)).length aa) (s.2)::vk 3 ah ae (U9 nd es q)::e8 b1 [e7 nd,va] 38::I) (λs=>(s.1<=(U9 nd es q).length)/\(s.2=cs5 (bz5 nd es<|q - 1) q ((U9 nd es q).take s.1))) (λs=>(U9 nd es q).length - s.1) (0,bz5 nd es<|q - 1) (show ((0:Nat)<=(U9 nd es q).length)/\((bz5 nd es (q - 1):List Int)=cs5 (bz5 nd es<|q - 1) q ((U9 nd es q).take (0:Nat))) from ⟨om,rfl⟩) (cx4<|Aa C<|Aa Cl Bb) (show Fit κ _ (vc 3 (.slice M (replicate nd.toNat (default:Int)).length aa) ((bz5 nd es<|q - 1))::vk 3 ah ae (U9 nd es q)::e8 b1 [e7 nd,va] 38::I) from Az) ?_
  rintro ⟨k,out⟩ hp
  dsimp only at hp ⊢
  obtain ⟨hk,ab⟩:=hp
  have ar:out.length=(j9 nd es).length:=by rw [ab,af2,U0]
  have au:k<(U9 nd es q).length->0<=e_ (U9 nd es q) k/\e_ (U9 nd es q) k<nd:=λh=>an _ (Bo om om)
  refine Z ?_
  refine Ao C (λak=>Z ?_)<|λak=>Z ?_
  ·refine Ge0 (Cw (α:=Int) (xs:=out) (e:=3) (new:=q) ef C C C om om am) (Z ?_)
   exact Bu ((k+1),(List.set out (e_ (U9 nd es q) k).toNat (q)))<|by dsimp only;exact ⟨om,(by rw [bw4 om,←ab])⟩
  have ao:out=bz5 nd es (q+1 - 1):=by rw [ab,Fz om,fa4 hG hq.1,Int.add_sub_cancel]
  exact Bu ((q+1)) om (hI:=by (try dsimp only);exact (by rw [←ao];exact Az))
 have hE:bz5 nd es (q - 1)=j9 nd es:=by rw [show q - 1=nd - 1 by omega];exact fa5 hG h1
 have ad:(replicate nd.toNat (default:Int)).length=(j9 nd es).length:=by rw [Gc,ai]
 exact C2 C C C (vk 3 M aa (j9 nd es)::I) (by unfold vk;rw [←ad,←hE];exact Az) ⟨M,aa,by rw [←ad],rfl⟩
end Go.Sl
namespace Go.Sl
end Go.Sl
namespace Go.Sl
open Go.Proofs
set_option maxRecDepth 4000
end Go.Sl
namespace Go.Sl
open Go.Proofs
set_option maxRecDepth 4000
variable{xs:List Pt}{k:Nat}
attribute [local irreducible] W G V D A j8 Eff
section
variable {nd:Int}{es:List Pt}
theorem by0(M:s8 nd es){u v y:Int}(h:at4 nd es u v y)(hm:j4 u v∈es):y=((es.idxOf (j4 u v):Nat):Int):=by
 rcases h with ⟨_,j,rfl,hj,e⟩|⟨_,h|h⟩
 ·rw [←e,idx_eq M hj]
 ·exact absurd (s4.2 M) h
 exact absurd hm h
theorem cf0(p:Pt->Bool)(h:k<xs.length)(M:p (e_ xs k)=true):((((xs.take (k+1)).filter p).length:Nat):Int)=(((xs.take k).filter p).length:Nat)+1:=by
 rw [Ca _ k h,Gu,By,Hn,B_ M];simp
theorem bm3(p:Pt->Bool)(h:k<xs.length)(M:p (e_ xs k)=false):((((xs.take (k+1)).filter p).length:Nat):Int)=(((xs.take k).filter p).length:Nat):=by
 rw [Ca _ k h,Gu,By,Hn,M];simp
theorem ds9(M:s8 nd es){e:Pt}(he:e∈es):(ah5 nd es e).length<=nd.toNat - 1:=by
 unfold ah5;rw [Ge];exact ak9 M he
end
theorem cy0{κ:Ctx}{I:List Item}{nd:Int}{va:Value}{es:List Pt}(hl:Sl κ I va es)(hG:s8 nd es)(i:Int)(h0:0<=i)(h1:i<es.length)(hb:es.length<=1000000):eu Tryz.prog κ 142 [.agg #[e7 nd,va],e7 i] I (λr J=>∃a c,r = .slice a (ah5 nd es (e_ es i)).length c/\J=vk 200 a c (ah5 nd es (e_ es i))::I):=by
 have aq:=hG.rng
 have he:=Bo (xs:=es) h0 h1
 have av:=ak9 hG he
 refine Ce2 Tryz.func142 C C ?_
 refine Al<|Ge1 (Av (cs:=[_,_]) C C C) λb1=>Z ?_
 refine Ge1 (Aj s9 C) λb2=>Ge0 (Co s9)<|Z ?_
 refine Gc2 (Ab c_ C C<|ag5 (nd:=nd) (A3 hl) ((e_ es i).u) ((e_ es i).v) om) λao an=>Z ?_
 refine Dj (σ:=Nat×(Option Addr)×Nat×(List Pt)) (λs=>[(5,.slice s.2.1 s.2.2.2.length s.2.2.1),(21,e7 ((s.1:Nat):Int))]) (λs=>[vk 200 s.2.1 s.2.2.1 s.2.2.2]) (λs=>(s.1<=(j3 nd es (e_ es i).u (e_ es i).v).length)/\(s.2.2.2=((j3 nd es (e_ es i).u (e_ es i).v).take s.1).map (λw=>(⟨((es.idxOf (j4 (e_ es i).u w):Nat):Int),((es.idxOf (j4 (e_ es i).v w):Nat):Int)⟩:Pt)))) (λs=>(j3 nd es (e_ es i).u (e_ es i).v).length - s.1) (0,none,0,[]) (show ((0:Nat)<=(j3 nd es (e_ es i).u (e_ es i).v).length)/\(([]:List Pt)=((j3 nd es (e_ es i).u (e_ es i).v).take (0:Nat)).map (λw=>(⟨((es.idxOf (j4 (e_ es i).u w):Nat):Int),((es.idxOf (j4 (e_ es i).v w):Nat):Int)⟩:Pt))) from ⟨om,rfl⟩) (hI:=(B6 _ _)) ?_
 rintro ⟨k,oa,oc,out⟩ hp
 dsimp only at hp ⊢
 obtain ⟨hk,ho⟩:=hp
 have ar:out.length=k:=by rw [ho,Ge,Ft];omega
 have ae:k<(j3 nd es (e_ es i).u (e_ es i).v).length->j4 (e_ es i).u (e_ (j3 nd es (e_ es i).u (e_ es i).v) (k:Int))∈es/\j4 (e_ es i).v (e_ (j3 nd es (e_ es i).u (e_ es i).v) (k:Int))∈es:=λh=>ak8 hG he (Bo om om)
 refine Z ?_
 refine Ao C (λaj=>Z ?_)<|λaj=>Z ?_
 ·refine A8 mixed (Bv (vk 3 ao an (j3 nd es ((e_ es i).u)<|(e_ es i).v)::e8 b2 [e7 ((e_ es i).u),e7<|(e_ es i).v] 105::e8 b1 [e7 nd,va] 38::I) 15<|Z ?_)
  refine Ds1 5<|Se C (Ab c_ C C<|ax3 (nd:=nd) (A3 hl) ((e_ es i).u)<|e_ (j3 nd es ((e_ es i).u)<|(e_ es i).v) (k:Int)) ?_
  rintro _ _ ⟨_,_,⟨aa,rfl,ad,rfl⟩,rfl,rfl⟩
  refine ⟨Ai,?_⟩
  have ah:=by0 hG ad (ae om).1
  refine Ds1 10<|Se C (Ab c_ C C<|ax3 (nd:=nd) (A3 hl) ((e_ es i).v)<|e_ (j3 nd es ((e_ es i).u)<|(e_ es i).v) (k:Int)) ?_
  rintro _ _ ⟨_,_,⟨M,rfl,ai,rfl⟩,rfl,rfl⟩
  refine ⟨Ai,?_⟩
  have ab:=by0 hG ai (ae om).2
  refine Dr 11 C (Eg (cells:=[_,_]) L9 B7 ef C C)<|Ds1 12<|Se1 C (B1 (α:=Pt) (cs:=[_,_]) (xs:=[⟨aa,M⟩]) Bw L9 C C dc dc C C C C) λau=>?_
  refine Ds1 13<|Se2 C (Bs (α:=Pt) (e:=200) (xs:=out) (ys:=([⟨aa,M⟩]:List Pt)) Bw L9 C C C mm A5 lcn dc C<|λ_ _=>am) λap ak=>Z ?_
  exact Bu ((k+1),(ap),(ak),(out++([⟨aa,M⟩]:List Pt)))<|by dsimp only;exact ⟨om,(by rw [Ca _ k om,Hv,←ho,ah,ab];rfl)⟩
 have hX:(ah5 nd es<|e_ es i)=out:=by rw [ho,Fz om];rfl
 exact Am C C (vk 200 oa oc (ah5 nd es<|e_ es i)::I) (by unfold vk;rw [hX];exact Ai) ⟨oa,oc,by rw [hX],rfl⟩
end Go.Sl
