/- A part of the proofs of statements of this seat: contracts of functions, and the plain laws that they lean on. No conditions. -/
import Derived.Test.YtnbkccjkdpolmaaGreatDoorA18
set_option linter.unusedVariables false
set_option linter.unusedSimpArgs false
set_option linter.unusedSectionVars false
open List (replicate)
set_option maxHeartbeats 4000000
namespace Go.Sl
open Go.Proofs
set_option maxRecDepth 4000
variable{A:List Item}{ad:Option Addr}{c k:Nat}{xs:List Int}{i j nd:Int}{x:Item}{es:List Pt}
variable {κ:Ctx}{I:List Item}
attribute [local irreducible] W G V D A Runs Eff
theorem FitW{κ:Ctx}{B:List Item}(h:B.Sublist A:=by repeat (first|exact List.Sublist.refl _|exact List.sublist_append_right _ _|apply List.Sublist.cons_cons|apply List.Sublist.cons)):Fit κ A B:=Fit.of_sublist h
theorem At.ow{I:List Item}:∀{rs:List (RowG Int)} {i:Int},0<=i->i<rs.length->
  At (ownR 3 rs++I) (vc 3 (.slice (e_ rs i).a (e_ rs i).xs.length (e_ rs i).c) (e_ rs i).xs) (vc 3 (.slice ad xs.length c) xs) (ownR 3 (List.set rs i.toNat ⟨ad,c,xs⟩)++I):=fun {rs} {i} M h=>by
 obtain ⟨k,rfl⟩:∃k:Nat,i=(k:Int):=⟨i.toNat,by omega⟩
 rw [Int.toNat_natCast]
 clear M
 induction rs generalizing k with
 |nil=>simp at h;omega
 |cons r rs ih=>
  cases k with
  |zero=>exact At.head _ _ _
  |succ k=>exact At.tail _ (ih k<|by simp at h;omega)
theorem ow_mem{I:List Item}{rs:List (RowG Int)}(M:0<=i)(h:i<rs.length):vc 3 (.slice (e_ rs i).a (e_ rs i).xs.length (e_ rs i).c) (e_ rs i).xs∈ownR 3 rs++I:=(At.ow (ad:=none) (c:=0) (xs:=[]) M h).mem
theorem ow_held{rs:List (RowG Int)}(M:0<=i)(h:i<rs.length):Sl κ (ownR 3 rs++I) (.slice (e_ rs i).a (e_ rs i).xs.length (e_ rs i).c) (e_ rs i).xs:=Em (ow_mem M h)
theorem At.ow2{I:List Item}{rs:List (RowG Int)}{x:RowG Int}(h0:0<=i)(h:i<rs.length)(j0:0<=j)(hj:j<rs.length)(M:j≠i) :
  At (ownR 3 (List.set rs j.toNat x)++I) (vc 3 (.slice (e_ rs i).a (e_ rs i).xs.length (e_ rs i).c) (e_ rs i).xs) (vc 3 (.slice ad xs.length c) xs) (ownR 3 (List.set (List.set rs j.toNat x) i.toNat ⟨ad,c,xs⟩)++I):=by
 have h1:=At.ow (I:=I) (ad:=ad) (c:=c) (xs:=xs) (rs:=List.set rs j.toNat x) (i:=i) h0 (by rw [List.length_set];exact h)
 rw [C2 _ _ _ _ j0 h0 hj,if_neg M] at h1
 exact h1
theorem Fit.nilow:∀(rs:List (RowG Int)),(∀r∈rs,r=default)->Fit κ I (ownR 3 rs++I)
 |[],_=>Fv _
 |r::rs,h=>by
  refine Ak (Fit.nilow rs λx M=>h x<|List.mem_cons_of_mem _ M) ?_
  show Fit κ _ (vc 3 (.slice r.a r.xs.length r.c) r.xs::_)
  rw [h r List.mem_cons_self]
  exact Bw _ _
theorem Atp{I I':List Item}{y:Item}(h:At I x y I':=by repeat (first|exact At.ow asm asm|exact At.ow2 asm asm asm asm asm|apply At.tail)):At I x y I':=h
theorem ow2_mem{I:List Item}{rs:List (RowG Int)}{x:RowG Int}(h0:0<=i)(h:i<rs.length)(j0:0<=j)(hj:j<rs.length)(M:j≠i):vc 3 (.slice (e_ rs i).a (e_ rs i).xs.length (e_ rs i).c) (e_ rs i).xs∈ownR 3 (List.set rs j.toNat x)++I:=(At.ow2 (ad:=none) (c:=0) (xs:=[]) h0 h j0 hj M).mem
theorem Mmp{I:List Item}(h:x∈I:=by repeat (first|exact ow_mem asm asm|exact ow2_mem asm asm asm asm asm|apply List.mem_cons_of_mem)):x∈I:=h
structure RowsI (nd:Int) (es:List Pt) (rs:List (RowG Int)):Prop where
 len:(rs.length:Int)=nd
 row:∀i:Int,0<=i->i<nd->(e_ rs i).xs=nbL es i
theorem RowsI.start(h:0<=nd):RowsI nd [] (replicate nd.toNat (default:RowG Int)):=⟨by rw [List.length_replicate];omega,λi M h1=>by rw [Fy _ _ _ M om];rfl⟩
theorem RowsI.push{rs:List (RowG Int)}(h:RowsI nd (es.take k) rs)(hk:k<es.length)(he:0<=(e_ es k).u/\(e_ es k).u<(e_ es k).v/\(e_ es k).v<nd)(a b:Option Addr)(c d:Nat) :
  RowsI nd (es.take<|k+1) (List.set (List.set rs (e_ es k).u.toNat ⟨a,c,(e_ rs (e_ es k).u).xs++[(e_ es k).v]⟩) (e_ es k).v.toNat ⟨b,d,(e_ rs (e_ es k).v).xs++[(e_ es k).u]⟩):=by
 have hl:=h.len
 refine ⟨by rw [List.length_set,List.length_set];exact hl,λi M h1=>?_⟩
 rw [nbL_take hk,C2 _ _ _ _ om M<|by rw [List.length_set];omega,C2 _ _ _ _ om M om]
 by_cases e1:(e_ es k).v=i
 ·rw [if_pos e1,if_neg om,if_pos e1]
  show (e_ rs (e_ es k).v).xs++_=_
  rw [e1,h.row i M h1];rfl
 rw [if_neg e1,if_neg e1]
 by_cases e2:(e_ es k).u=i
 ·rw [if_pos e2,if_pos e2]
  show (e_ rs (e_ es k).u).xs++_=_
  rw [e2,h.row i M h1,List.append_nil]
 rw [if_neg e2,if_neg e2,h.row i M h1];simp
theorem eu.at_ow{κ:Ctx}{I:List Item}{rs:List (RowG Int)}{x:RowG Int}(hx:e_ rs i=x)(h0:0<=i)(h:i<rs.length)(ab:x.xs.length<4611686018427387904):eu Tryz.prog κ 237 [.slice x.a x.xs.length x.c] (A++(ownR 3 rs++I)) λr J=>∃R,r = .tuple #[]/\(vc 3 (.slice x.a x.xs.length x.c) (sortZ x.xs)::R).Perm (A++(ownR 3 (List.set rs i.toNat ⟨x.a,x.c,sortZ x.xs⟩)++I))/\J=vc 3 (.slice x.a x.xs.length x.c) (sortZ x.xs)::R:=by
 have M:=At.ow (I:=I) (ad:=x.a) (c:=x.c) (xs:=sortZ x.xs) (rs:=rs) (i:=i) h0 h
 rw [hx] at M
 obtain ⟨R,h1,h2⟩:=M.perm
 rw [Fa] at h2
 have hp:(A++(ownR 3 rs++I)).Perm (vc 3 (.slice x.a x.xs.length x.c) x.xs::(A++R)):=(List.Perm.append_left A h1).trans List.perm_middle
 have aa:(vc 3 (.slice x.a x.xs.length x.c) (sortZ x.xs)::(A++R)).Perm (A++(ownR 3 (List.set rs i.toNat ⟨x.a,x.c,sortZ x.xs⟩)++I)):=(List.perm_middle.symm).trans (List.Perm.append_left A h2.symm)
 exact Cv (Et hp)<|(sortI_ok (e:=3) ab).mono λr J ⟨e1,e2⟩=>⟨A++R,e1,aa,e2⟩
theorem nbL_nodup{nd:Int}:∀{es:List Pt},es.Nodup->(∀e∈es,e.u<e.v)->∀v,(nbL es v).Nodup
  |[],_,_,v=>List.nodup_nil
  |e::es,hn,h,v=>by
    obtain ⟨h1,h2⟩:=List.nodup_cons.1 hn
    have ih:=nbL_nodup (nd:=nd) h2 (λx hx=>h x<|List.mem_cons_of_mem _ hx) v
    have he:=h e List.mem_cons_self
    have e1:nbL (e::es) v=((if e.u=v then [e.v] else [])++(if e.v=v then [e.u] else []))++nbL es v:=rfl
    rw [e1]
    by_cases a:e.u=v
    · rw [if_pos a,if_neg om,List.append_nil]
      refine List.nodup_cons.2 ⟨λM=>?_,ih⟩
      rcases mem_nbL.1 M with hh|hh
      · exact h1 (by have:e=⟨v,e.v⟩:=by rw [E6];exact ⟨a,rfl⟩
                     rw [this];exact hh)
      · have:=h _ (List.mem_cons_of_mem _ hh);simp only at this;omega
    · rw [if_neg a]
      by_cases b:e.v=v
      · rw [if_pos b,List.nil_append]
        refine List.nodup_cons.2 ⟨λM=>?_,ih⟩
        rcases mem_nbL.1 M with hh|hh
        · have:=h _ (List.mem_cons_of_mem _ hh);simp only at this;omega
        · exact h1 (by have:e=⟨e.u,v⟩:=by rw [E6];exact ⟨rfl,b⟩
                       rw [this];exact hh)
      · rw [if_neg b];exact ih
theorem sort_nb(M:GrOk nd es)(v:Int):sortZ (nbL es v)=nbG nd es v:=by
 have hn:=nbL_nodup (nd:=nd) (asc_nodup M.asc) (λe he=>(M.edge e he).2.1) v
 unfold nbG
 rw [if_neg (by rw [checkG_ok.2 M];decide)]
 refine intLin.uniq ?_ (ofL_asc _) λx=>by rw [mem_sortZ,mem_ofL]
 have h1:=sortZ_asc (nbL es v)
 have h2:(sortZ<|nbL es v).Nodup:=(sortZ_perm _).nodup_iff.2 hn
 exact (h1.and h2).imp λh=>by have:=h.1;have:=h.2;omega
structure ListsR (nd:Int) (es:List Pt) (rs rs2:List (RowG Int)):Prop where
 len:(rs.length:Int)=nd/\(rs2.length:Int)=nd
 row:∀i:Int,0<=i->i<nd->e_ rs2 i=⟨(e_ rs i).a,(e_ rs i).c,nbG nd es i⟩/\(e_ rs i).xs.length=(nbG nd es i).length
structure SortI (nd:Int) (rs rs2:List (RowG Int)) (k:Nat):Prop where
 len:rs2.length=rs.length
 done:∀i:Int,0<=i->i<(k:Int)->e_ rs2 i=⟨(e_ rs i).a,(e_ rs i).c,sortZ (e_ rs i).xs⟩
 rest:∀i:Int,(k:Int)<=i->i<rs.length->e_ rs2 i=e_ rs i
theorem SortI.start(nd:Int)(rs:List (RowG Int)):SortI nd rs rs 0:=⟨rfl,λi h0 M=>by omega,λi _ _=>rfl⟩
theorem SortI.step{rs M:List (RowG Int)}(h:SortI nd rs M k)(hk:k<rs.length):SortI nd rs (List.set M ((k:Int)).toNat ⟨(e_ rs k).a,(e_ rs k).c,sortZ (e_ rs k).xs⟩) (k+1):=by
 have hl:=h.len
 refine ⟨by rw [List.length_set];exact hl,λi h0 h1=>?_,λi h0 h1=>?_⟩
 ·rw [C2 _ _ _ _ om h0 om]
  by_cases e:(k:Int)=i
  ·rw [if_pos e,e]
  rw [if_neg e];exact h.done i h0 om
 rw [C2 _ _ _ _ om om om,if_neg om];exact h.rest i om h1
theorem SortI.all{rs M:List (RowG Int)}(hG:GrOk nd es)(h:SortI nd rs M k)(hR:RowsI nd es rs)(hk:k=rs.length):ListsR nd es rs M:=by
 have hl:=h.len
 have hr:=hR.len
 refine ⟨⟨hr,by omega⟩,λi h0 h1=>?_⟩
 have e:=hR.row i h0 h1
 rw [h.done i h0 om,e,sort_nb hG]
 refine ⟨rfl,?_⟩
 rw [←sort_nb hG,Fa]
theorem ListsR.held{rs M:List (RowG Int)}(h:ListsR nd es rs M)(h0:0<=i)(h1:i<nd):Sl κ (ownR 3 M++I) (.slice (e_ rs i).a (e_ rs i).xs.length (e_ rs i).c) (nbG nd es i):=by
 obtain ⟨e,el⟩:=h.row i h0 h1
 have hh:=ow_held (κ:=κ) (I:=I) (rs:=M) (i:=i) h0 (by have:=h.len;omega)
 rw [e] at hh
 rw [el];exact hh
theorem Lists_ok{va:Value}(hl:Sl κ I va es)(hG:GrOk nd es):eu Tryz.prog κ 199 [.agg #[e7 nd,va]] I (λr J=>∃a c rs ad,r = .slice a (rs:List (RowG Int)).length c/\ListsR nd es rs ad/\J=vc 22 (.slice a rs.length c) rs::(ownR 3 ad++I)):=by
 refine Bu hl.le λa8=>?_
 have bc:=hG.rng
 have bq:=edges_le hG
 refine Ce1 Tryz.func199 C C ?_
 refine Ar<|Ge1 (Al (cs:=[_,_]) C C C) λb1=>Z ?_
 refine Ge2 (Cj (α:=(RowG Int)) (n:=nd.toNat) Bp ty22 C C C om om dc C) λaa ab=>?_
 refine Ga C ?_
 have bb:(replicate nd.toNat (default:RowG Int)).length=nd.toNat:=List.length_replicate
 refine G.pull (p:=0<(replicate nd.toNat (default:RowG Int)).length->aa≠none) (vc.isSome mm) λM=>Z ?_
 refine Cn (σ:=Nat×(List<|RowG Int)) (λs=>([(3,.slice aa (replicate nd.toNat (default:(RowG Int))).length ab),(12,va),(13,e7 ((es.length:Nat):Int)),(14,e7 ((s.1:Nat):Int))]:Env)) (λs=>vc 22 (.slice aa (replicate nd.toNat (default:(RowG Int))).length ab) (s.2)::e8 b1 [e7 nd,va] 56::(ownR 3 s.2++I)) (λs=>(s.1<=es.length)/\(RowsI nd (es.take s.1) s.2)) (λs=>es.length - s.1) (0,replicate nd.toNat (default:(RowG Int))) ⟨om,(RowsI.start om)⟩ (Ab C<|Ab C<|Ab C<|Ab Dg Bs) (Ak (show Fit κ _ (ownR 3 (replicate nd.toNat (default:(RowG Int)))++(vc 22 (.slice aa (replicate nd.toNat (default:(RowG Int))).length ab) (replicate nd.toNat (default:(RowG Int)))::e8 b1 [e7 nd,va] 56::I)) from Ak Bb (Fit.nilow _<|λr hr=>List.eq_of_mem_replicate hr))<|Et<|Fh (A:=ownR 3 (replicate nd.toNat (default:(RowG Int)))) (L:=[vc 22 (.slice aa (replicate nd.toNat (default:(RowG Int))).length ab) (replicate nd.toNat (default:(RowG Int))),e8 b1 [e7 nd,va] 56]) (T:=I)) ?_
 rintro ⟨k,rs⟩ hp
 dsimp only at hp ⊢
 obtain ⟨hk,hR⟩:=hp
 have a4:=λh:k<es.length=>hG.at h
 have bn:=hR.len
 refine Z ?_
 refine Ap C (λa5=>Z ?_)<|λa5=>Z ?_
 ·refine Ge1 (Am ty95 C) λb4=>Ge0 (Cf ty95) ?_
  obtain ⟨bf,bj,bp⟩:=a4 om
  have bk:((e_ es k).u)<rs.length:=by omega
  have bm:0<=((e_ es k).v):=by omega
  have bh:((e_ es k).v)<rs.length:=by omega
  have ba:((e_ es k).u)≠((e_ es k).v):=by omega
  have az:(((e_ rs<|(e_ es k).u).xs).length+([((e_ es k).v)]:List Int).length)*8<=140737488355328:=by rw [hR.row _ om om];have h2:=nbL_len (es.take k) ((e_ es k).u);simp only [List.length_take,List.length_cons,List.length_nil] at h2 ⊢; omega
  have ay:(((e_ rs<|(e_ es k).v).xs).length+([((e_ es k).u)]:List Int).length)*8<=140737488355328:=by rw [hR.row _ om om];have h3:=nbL_len (es.take k) ((e_ es k).v);simp only [List.length_take,List.length_cons,List.length_nil] at h3 ⊢; omega
  refine As<|A4 mixed<|Cm (e8 b4 [e7 ((e_ es k).u),e7<|(e_ es k).v] 95::I) 28<|Ek 0 C kr kr kr C kr (λ_ _ _ _ h=>h) (Ba C) C C FitW (Af C) ?_
  refine Ek 1 C kr kr kr C kr (λ_ _ _ _ h=>h) (Ba C) C C FitW (Ad fld95_0 C) ?_
  refine Ek 2 C kr kr kr C kr (λ_ _ _ _ h=>h) (Ba C) C C FitW (Ax ef) ?_
  refine Ek 3 C kr kr kr C kr (λ_ _ _ _ h=>h) (Ba C) C C FitW (Af C) ?_
  refine Ek 4 C kr kr kr C kr (λ_ _ _ _ h=>h) (Ba C) C C FitW (Ad fld95_1 C) ?_
  refine Ek 5 C kr kr kr C kr (λ_ _ _ _ h=>h) (Ba C) C C FitW (Ax ef) ?_
  refine Ek 6 C kr kr kr C kr (λ_ _ _ _ h=>h) (Ba C) C C FitW (Af C) ?_
  refine Ek 7 C kr kr kr C kr (λ_ _ _ _ h=>h) (Ba C) C C FitW (Ad fld95_0 C) ?_
  refine Ek 8 C kr kr kr C kr (λ_ _ _ _ h=>h) (Ba C) C C FitW (Ax ef) ?_
  refine Ek 9 C kr kr kr C kr (λ_ _ _ _ h=>h) (Ba C) C C FitW (Runs.idxs (RowG Int) Bp ty22 C C (M om) om om) ?_
  refine Ek 11 C kr kr kr C kr (λ_ _ _ _ h=>h) (Ba C) C C FitW (Ad fld95_1 C) ?_
  refine Ek 12 C kr kr kr C kr (λ_ _ _ _ h=>h) (Ba C) C C FitW (Ax ef) ?_
  refine Ek 15 C kr kr kr C kr (λ_ _ _ _ h=>h) (Ba C) C C FitW (Af C) ?_
  refine Ek 16 C kr kr kr C kr (λ_ _ _ _ h=>h) (Ba C) C C FitW (Ad fld95_1 C) ?_
  refine Ek 17 C kr kr kr C kr (λ_ _ _ _ h=>h) (Ba C) C C FitW (Ax ef) ?_
  refine Ek 18 C kr kr kr C kr (λ_ _ _ _ h=>h) (Ba C) C C FitW (Runs.idxs (RowG Int) Bp ty22 C C (M om) om om) ?_
  refine Ek 20 C kr kr kr C kr (λ_ _ _ _ h=>h) (Ba C) C C FitW (Ad fld95_0 C) ?_
  refine Ek 21 C kr kr kr C kr (λ_ _ _ _ h=>h) (Ba C) C C FitW (Ax ef) ?_
  refine D.two (e8 b4 [e7 ((e_ es k).u),e7<|(e_ es k).v] 95::vc 22 (.slice aa (replicate nd.toNat (default:(RowG Int))).length ab) (rs)::I) 25 FitW ?_
  refine D2.read 10 C kr kr kr C kr (λ_ _ _ _ h=>h) (Ba C) C C FitW (Dj (α:=(RowG Int)) (xs:=rs) (u:= .slice (e_ rs<|(e_ es k).u).a (e_ rs<|(e_ es k).u).xs.length (e_ rs<|(e_ es k).u).c) ty22 C A7 om om C) ?_
  refine D2.read 19 C kr kr kr C kr (λ_ _ _ _ h=>h) (Ba C) C C FitW (Dj (α:=(RowG Int)) (xs:=rs) (u:= .slice (e_ rs<|(e_ es k).v).a (e_ rs<|(e_ es k).v).xs.length (e_ rs<|(e_ es k).v).c) ty22 C A7 om om C) ?_
  refine F1 (rs:=[13,22]) kr C C<|D6 ?_<|Dv ?_
  ·refine Er C (Ba C) (B9 (α:=Int) (cs:=[_]) (xs:=[(e_ es k).v]) Aa ef C C dc dc C C C C) ?_
   rintro _ _ ⟨br,rfl,rfl⟩
   refine ⟨FitW,?_⟩
   refine F1 (rs:=[14,22]) kr C C<|D6 ?_<|Dv ?_
   ·refine Er C (Ba C) (B4 (α:=Int) (e:=3) (xs:=(e_ rs<|(e_ es k).u).xs) (ys:=([(e_ es k).v]:List Int)) Aa ef C C C Mmp A7 az dc C<|λ_ _=>Atp) ?_
    rintro _ _ ⟨ax,aw,rfl,rfl⟩
    refine ⟨FitW,?_⟩
    refine F1 (rs:=[22]) kr C C<|Dv ?_
    refine Er C (Ba C) (B9 (α:=Int) (cs:=[_]) (xs:=[(e_ es k).u]) Aa ef C C dc dc C C C C) ?_
    rintro _ _ ⟨bo,rfl,rfl⟩
    refine ⟨FitW,?_⟩
    refine F1 (rs:=[23]) kr C C<|Dv ?_
    refine Er C (Ba C) (B4 (α:=Int) (e:=3) (xs:=(e_ rs<|(e_ es k).v).xs) (ys:=([(e_ es k).u]:List Int)) Aa ef C C C Mmp A7 ay dc C<|λ_ _=>Atp) ?_
    rintro _ _ ⟨a0,ar,rfl,rfl⟩
    refine ⟨FitW,?_⟩
    refine D2.read 24 C kr kr kr C kr (λ_ _ _ _ h=>h) (Ba C) C C FitW (Runs.idxs (RowG Int) Bp ty22 C C (M om) om om) ?_
    refine D2.stop kr ?_
    refine Ds1 25<|Se C (Ci (α:=(RowG Int)) (xs:=rs) (e:=22) (new:=(⟨ax,aw,((e_ rs<|(e_ es k).u).xs++([(e_ es k).v]:List Int))⟩:RowG Int)) ty22 C C C om (by first|omega|(rw [List.length_set];omega)) am) ?_
    rintro _ _ ⟨rfl,rfl⟩
    refine ⟨FitW,?_⟩
    refine Ek 26 C kr kr kr C kr (λ_ _ _ _ h=>h) (Ba C) C C FitW (Runs.idxs (RowG Int) Bp ty22 C C (M om) om om) ?_
    refine Ds1 27<|Se C (Ci (α:=(RowG Int)) (xs:=List.set rs ((e_ es k).u).toNat (⟨ax,aw,((e_ rs<|(e_ es k).u).xs++([(e_ es k).v]:List Int))⟩:RowG Int)) (e:=22) (new:=(⟨a0,ar,((e_ rs<|(e_ es k).v).xs++([(e_ es k).u]:List Int))⟩:RowG Int)) ty22 C C C om (by first|omega|(rw [List.length_set];omega)) am) ?_
    rintro _ _ ⟨rfl,rfl⟩
    refine ⟨FitW,?_⟩
    refine Z ?_
    exact B5 ((k+1),(List.set (List.set rs ((e_ es k).u).toNat (⟨ax,aw,((e_ rs<|(e_ es k).u).xs++([(e_ es k).v]:List Int))⟩:RowG Int)) ((e_ es k).v).toNat (⟨a0,ar,((e_ rs<|(e_ es k).v).xs++([(e_ es k).u]:List Int))⟩:RowG Int)))<|by dsimp only;exact ⟨om,(hR.push om om _ _ _ _)⟩
   refine Er C (Ba C) (B9 (α:=Int) (cs:=[_]) (xs:=[(e_ es k).u]) Aa ef C C dc dc C C C C) ?_
   rintro _ _ ⟨a7,rfl,rfl⟩
   refine ⟨FitW,?_⟩
   refine F1 (rs:=[14]) kr C C<|Dv ?_
   refine Er C (Ba C) (B4 (α:=Int) (e:=3) (xs:=(e_ rs<|(e_ es k).u).xs) (ys:=([(e_ es k).v]:List Int)) Aa ef C C C Mmp A7 az dc C<|λ_ _=>Atp) ?_
   rintro _ _ ⟨ah,aj,rfl,rfl⟩
   refine ⟨FitW,?_⟩
   refine F1 (rs:=[23]) kr C C<|Dv ?_
   refine Er C (Ba C) (B4 (α:=Int) (e:=3) (xs:=(e_ rs<|(e_ es k).v).xs) (ys:=([(e_ es k).u]:List Int)) Aa ef C C C Mmp A7 ay dc C<|λ_ _=>Atp) ?_
   rintro _ _ ⟨ap,aq,rfl,rfl⟩
   refine ⟨FitW,?_⟩
   refine D2.read 24 C kr kr kr C kr (λ_ _ _ _ h=>h) (Ba C) C C FitW (Runs.idxs (RowG Int) Bp ty22 C C (M om) om om) ?_
   refine D2.stop kr ?_
   refine Ds1 25<|Se C (Ci (α:=(RowG Int)) (xs:=rs) (e:=22) (new:=(⟨ah,aj,((e_ rs<|(e_ es k).u).xs++([(e_ es k).v]:List Int))⟩:RowG Int)) ty22 C C C om (by first|omega|(rw [List.length_set];omega)) am) ?_
   rintro _ _ ⟨rfl,rfl⟩
   refine ⟨FitW,?_⟩
   refine Ek 26 C kr kr kr C kr (λ_ _ _ _ h=>h) (Ba C) C C FitW (Runs.idxs (RowG Int) Bp ty22 C C (M om) om om) ?_
   refine Ds1 27<|Se C (Ci (α:=(RowG Int)) (xs:=List.set rs ((e_ es k).u).toNat (⟨ah,aj,((e_ rs<|(e_ es k).u).xs++([(e_ es k).v]:List Int))⟩:RowG Int)) (e:=22) (new:=(⟨ap,aq,((e_ rs<|(e_ es k).v).xs++([(e_ es k).u]:List Int))⟩:RowG Int)) ty22 C C C om (by first|omega|(rw [List.length_set];omega)) am) ?_
   rintro _ _ ⟨rfl,rfl⟩
   refine ⟨FitW,?_⟩
   refine Z ?_
   exact B5 ((k+1),(List.set (List.set rs ((e_ es k).u).toNat (⟨ah,aj,((e_ rs<|(e_ es k).u).xs++([(e_ es k).v]:List Int))⟩:RowG Int)) ((e_ es k).v).toNat (⟨ap,aq,((e_ rs<|(e_ es k).v).xs++([(e_ es k).u]:List Int))⟩:RowG Int)))<|by dsimp only;exact ⟨om,(hR.push om om _ _ _ _)⟩
  refine Er C (Ba C) (B9 (α:=Int) (cs:=[_]) (xs:=[(e_ es k).u]) Aa ef C C dc dc C C C C) ?_
  rintro _ _ ⟨a9,rfl,rfl⟩
  refine ⟨FitW,?_⟩
  refine F1 (rs:=[13]) kr C C<|Dv ?_
  refine Er C (Ba C) (B9 (α:=Int) (cs:=[_]) (xs:=[(e_ es k).v]) Aa ef C C dc dc C C C C) ?_
  rintro _ _ ⟨be,rfl,rfl⟩
  refine ⟨FitW,?_⟩
  refine F1 (rs:=[14]) kr C C<|Dv ?_
  refine Er C (Ba C) (B4 (α:=Int) (e:=3) (xs:=(e_ rs<|(e_ es k).u).xs) (ys:=([(e_ es k).v]:List Int)) Aa ef C C C Mmp A7 az dc C<|λ_ _=>Atp) ?_
  rintro _ _ ⟨ae,ai,rfl,rfl⟩
  refine ⟨FitW,?_⟩
  refine F1 (rs:=[23]) kr C C<|Dv ?_
  refine Er C (Ba C) (B4 (α:=Int) (e:=3) (xs:=(e_ rs<|(e_ es k).v).xs) (ys:=([(e_ es k).u]:List Int)) Aa ef C C C Mmp A7 ay dc C<|λ_ _=>Atp) ?_
  rintro _ _ ⟨ao,au,rfl,rfl⟩
  refine ⟨FitW,?_⟩
  refine D2.read 24 C kr kr kr C kr (λ_ _ _ _ h=>h) (Ba C) C C FitW (Runs.idxs (RowG Int) Bp ty22 C C (M om) om om) ?_
  refine D2.stop kr ?_
  refine Ds1 25<|Se C (Ci (α:=(RowG Int)) (xs:=rs) (e:=22) (new:=(⟨ae,ai,((e_ rs<|(e_ es k).u).xs++([(e_ es k).v]:List Int))⟩:RowG Int)) ty22 C C C om (by first|omega|(rw [List.length_set];omega)) am) ?_
  rintro _ _ ⟨rfl,rfl⟩
  refine ⟨FitW,?_⟩
  refine Ek 26 C kr kr kr C kr (λ_ _ _ _ h=>h) (Ba C) C C FitW (Runs.idxs (RowG Int) Bp ty22 C C (M om) om om) ?_
  refine Ds1 27<|Se C (Ci (α:=(RowG Int)) (xs:=List.set rs ((e_ es k).u).toNat (⟨ae,ai,((e_ rs<|(e_ es k).u).xs++([(e_ es k).v]:List Int))⟩:RowG Int)) (e:=22) (new:=(⟨ao,au,((e_ rs<|(e_ es k).v).xs++([(e_ es k).u]:List Int))⟩:RowG Int)) ty22 C C C om (by first|omega|(rw [List.length_set];omega)) am) ?_
  rintro _ _ ⟨rfl,rfl⟩
  refine ⟨FitW,?_⟩
  refine Z ?_
  exact B5 ((k+1),(List.set (List.set rs ((e_ es k).u).toNat (⟨ae,ai,((e_ rs<|(e_ es k).u).xs++([(e_ es k).v]:List Int))⟩:RowG Int)) ((e_ es k).v).toNat (⟨ao,au,((e_ rs<|(e_ es k).v).xs++([(e_ es k).u]:List Int))⟩:RowG Int)))<|by dsimp only;exact ⟨om,(hR.push om om _ _ _ _)⟩
 have av:RowsI nd es rs:=by rw [List.take_of_length_le om] at hR;exact hR
 refine Z ?_
 refine Cn (σ:=Nat×(List<|RowG Int)) (λs=>([(3,.slice aa (replicate nd.toNat (default:(RowG Int))).length ab),(45,.slice aa (replicate nd.toNat (default:(RowG Int))).length ab),(46,e7<|(((replicate nd.toNat (default:(RowG Int))).length:Nat):Int)),(47,e7 ((s.1:Nat):Int))]:Env)) (λs=>vc 22 (.slice aa (replicate nd.toNat (default:(RowG Int))).length ab) (rs)::e8 b1 [e7 nd,va] 56::(ownR 3 s.2++I)) (λs=>(s.1<=rs.length)/\(SortI nd rs s.2 s.1)) (λs=>rs.length - s.1) (0,rs) ⟨om,(SortI.start nd rs)⟩ (Ab C<|Ab C<|Ab C<|Ab Dg Bs) Aj ?_
 rintro ⟨k2,ad⟩ hp
 dsimp only at hp ⊢
 obtain ⟨bg,ak⟩:=hp
 have bi:=ak.len
 refine Z ?_
 refine Ap C (λa3=>Z ?_)<|λa3=>Z ?_
 ·refine G.e (Ac c_ C C<|eu.at_ow (A:=[vc 22 (.slice aa (replicate nd.toNat (default:(RowG Int))).length ab) rs,e8 b1 [e7 nd,va] 56]) (I:=I) (rs:=ad) (i:=(k2:Int)) (x:=(e_ rs k2)) (ak.rest _ (Int.le_refl _) om) om om<|by rw [av.row _ om om];have:=nbL_len es (k2:Int);omega) ?_
  rintro _ _ ⟨_,_,⟨R922,rfl,an,rfl⟩,rfl,rfl⟩
  refine G.fit (J:=vc 22 (.slice aa (replicate nd.toNat (default:(RowG Int))).length ab) (rs)::e8 b1 [e7 nd,va] 56::(ownR 3 (List.set ad ((k2:Int)).toNat ⟨(e_ rs k2).a,(e_ rs k2).c,sortZ (e_ rs k2).xs⟩)++I)) (Et an)<|Z ?_
  exact B5 ((k2+1),((List.set ad ((k2:Int)).toNat ⟨(e_ rs k2).a,(e_ rs k2).c,sortZ (e_ rs k2).xs⟩)))<|by dsimp only;exact ⟨om,(ak.step om)⟩
 have a6:=ak.all hG av om
 have a1:(replicate nd.toNat (default:(RowG Int))).length=rs.length:=by have:=av.len;omega
 exact Ai C C (vc 22 (.slice aa rs.length ab) rs::(ownR 3 ad++I)) (by rw [←a1];exact Aj) ⟨aa,ab,rs,ad,by rw [←a1],a6,rfl⟩
end Go.Sl
namespace Go.Sl
open Go.Proofs
set_option maxRecDepth 4000
section
variable {nd:Int}{es:List Pt}{X S Y:List Int}{v:Int}
theorem edgeP_comm(u v:Int):edgeP u v=edgeP v u:=by
 unfold edgeP
 rcases Int.lt_trichotomy u v with h|h|h
 ·rw [if_neg om,if_pos h,if_pos h,if_neg om]
 ·subst h;rfl
 rw [if_pos h,if_neg om,if_neg om,if_pos h]
end



end Go.Sl
namespace Go.Sl
open Go.Proofs
set_option maxRecDepth 4000
variable{nd:Int}{es:List Pt}{va:Value}
variable {κ:Ctx}{I:List Item}
attribute [local irreducible] W G V D A Runs Eff
theorem nbG_asc(nd:Int)(es:List Pt)(v:Int):(nbG nd es v).Pairwise (λx0 M:Int=>x0<M):=by
 unfold nbG
 split
 ·exact List.Pairwise.nil
 exact ofL_asc _
theorem inter_common{u v:Int}(h:u≠v):interF (nbG nd es u) (nbG nd es v)=commonG nd es u v:=by
 unfold commonG
 rw [if_neg h]
 refine intLin.uniq ((nbG_asc nd es u).sublist List.filter_sublist) ?_ λx=>?_
 ·unfold meetL;exact (ofL_asc _).sublist List.filter_sublist
 rw [mem_meetL];unfold interF;rw [List.mem_filter,decide_eq_true_eq]
theorem Shared_any{a0 b0:Option Addr}{n0 M c0 d0:Nat}{xs ys:List Int}(hn:n0=xs.length)(aa:M=ys.length)(hl:Sl κ I (.slice a0 n0 c0) xs)(hm:Sl κ I (.slice b0 M d0) ys)(hx:xs.Pairwise (λx0 x1:Int=>x0<x1))(hy:ys.Pairwise (λx0 x1:Int=>x0<x1))(hb:xs.length<=100000):eu Tryz.prog κ 200 [.slice a0 n0 c0,.slice b0 M d0] I λr J=>∃a c,r = .slice a (interF xs ys).length c/\J=vc 3 (.slice a (interF xs ys).length c) (interF xs ys)::I:=by
 subst hn aa
 exact Shared_ok hl hm hx hy hb
theorem Counts_ok(hl:Sl κ I va es)(hG:GrOk nd es):eu Tryz.prog κ 128 [.agg #[e7 nd,va]] I (λr J=>∃a c,∃out:List Int,r = .tuple #[e7 (triS nd es / 3),.slice a out.length c]/\J=vc 3 (.slice a out.length c) out::I):=by
 have a7:=hG.rng
 have bb:=edges_le hG
 have a8:=triS_bd hG
 refine Ce1 Tryz.func128 C C ?_
 refine Ar<|Ge1 (Al (cs:=[_,_]) C C C) λb1=>Ga C<|Ga C<|As<|Ar<|Gl2 ty56 ?_
 refine G.e (Ac c_ C C<|Lists_ok (nd:=nd) (Au hl) hG) ?_
 rintro _ _ ⟨_,_,⟨ae,ah,rs,aj,rfl,ai,rfl⟩,rfl,rfl⟩
 refine G.fit (J:=vc 22 (.slice ae rs.length ah) (rs)::e8 b1 [e7 nd,va] 56::(ownR 3 aj++I)) (Et<|List.Perm.cons _<|Fh (A:=ownR 3 aj) (L:=[e8 b1 [e7 nd,va] 56]) (T:=I)) ?_
 have a6:=ai.len
 refine Ga C<|As<|A5<|A4 mixed<|Cr 5<|Dr 0 C (Ad fld56_0 C)<|Dr 1 C (Ax ef) ?_
 refine Dr 3 C (A0 C)<|Ds1 2<|Se2 C (Cj (α:=Int) (n:=nd.toNat) Aa ef C C C om om dc C) λab ad=>?_
 refine Dr 4 C (A0 C)<|Dz<|Ay<|A5<|Ar<|Gf fld56_1 C<|Gl ty54 ?_
 refine Gr (Da (α:=Pt) (xs:=es) Cp C<|Au hl)<|Gm C<|As<|Bg (S6 19 18 17 6 5 4 C C C C C C)<|Bk<|Cn (σ:=Nat×(List Int)×Int) (λs=>([(4,.slice ae rs.length ah),(5,e7<|s.2.2),(6,.slice ab (replicate nd.toNat (default:Int)).length ad),(17,va),(18,e7 ((es.length:Nat):Int)),(19,e7 ((s.1:Nat):Int))]:Env)) (λs=>vc 3 (.slice ab (replicate nd.toNat (default:Int)).length ad) (s.2.1)::vc 22 (.slice ae rs.length ah) (rs)::e8 b1 [e7 nd,va] 56::(ownR 3 aj++I)) (λs=>(s.1<=es.length)/\(s.2.2=triK nd es s.1)/\(s.2.1.length=nd.toNat)/\(s.2.1.sum=s.2.2)/\(∀x∈s.2.1,0<=x)) (λs=>es.length - s.1) (0,replicate nd.toNat (default:Int),0) ⟨om,rfl,(by rw [List.length_replicate]),(sumL_rep _),(λx hx=>by rw [List.eq_of_mem_replicate hx];exact Int.le_refl 0)⟩ (Ab C<|Ab Dg<|Ab C<|Ab C<|Ab C<|Ab Dg Bs) Bb ?_
 rintro ⟨k,out,q⟩ hp
 dsimp only at hp ⊢
 obtain ⟨hk,hq,aq,a4,av⟩:=hp
 have ax:=λh:k<=es.length=>triK_bd nd es k h
 have ay:=λh:k<es.length=>hG.at h
 refine Ar<|Gr (Ch C C)<|As<|A5<|Ap C (λa5=>?_)<|λa5=>?_
 ·refine Bt (Ay<|A5<|Bk<|Ar<|Gr (Az (α:=Pt) (xs:=es) Cp ty95 C C (Au hl) om oo)<|Gr (Dt (α:=Pt) (xs:=es) ty95 C (Au hl) om oo)<|Ge1 (Am ty95 C) λb6=>Ge0 (Cf ty95) ?_)
  refine As<|A5<|A4 mixed<|Cr 13<|Dr 0 C (Af C)<|Dr 1 C (Ad fld95_0 C)<|Dr 2 C (Ax ef) ?_
  refine Dr 3 C (Az (α:=(RowG Int)) (xs:=rs) Bp ty22 C C A7 om oo)<|Dr 4 C (Dj (α:=(RowG Int)) (xs:=rs) (u:= .slice (e_ rs<|(e_ es k).u).a (e_ rs<|(e_ es k).u).xs.length (e_ rs<|(e_ es k).u).c) ty22 C A7 om oo C)<|Dr 5 C (Af C)<|Dr 6 C (Ad fld95_1 C)<|Dr 7 C (Ax ef) ?_
  refine Dr 8 C (Az (α:=(RowG Int)) (xs:=rs) Bp ty22 C C A7 om oo)<|Dr 9 C (Dj (α:=(RowG Int)) (xs:=rs) (u:= .slice (e_ rs<|(e_ es k).v).a (e_ rs<|(e_ es k).v).xs.length (e_ rs<|(e_ es k).v).c) ty22 C A7 om oo C)<|Dr 12 C (Af C)<|Ds1 10<|Se C (Ac c_ C C<|Shared_any (ai.row _ om om).2 (ai.row _ om om).2 (Bm (ai.held (I:=I) (i:=((e_ es k).u)) om om) Ah) (Bm (ai.held (I:=I) (i:=((e_ es k).v)) om om) Ah) (nbG_asc _ _ _) (nbG_asc _ _ _) (by have:=nbG_len nd es (e_ es k).u;omega)) ?_
  rintro _ _ ⟨_,_,⟨au,ar,rfl,rfl⟩,rfl,rfl⟩
  refine ⟨Aj,?_⟩
  have ap:interF (nbG nd es<|(e_ es k).u) (nbG nd es<|(e_ es k).v)=commonG nd es (e_ es k).u (e_ es k).v:=inter_common (by have:=ay om;omega)
  rw [ap]
  refine Dr 11 C (Ca Aa C)<|Dz<|Ay<|Bg (S9 34 33 35 4 5 6 17 18 19 C C C C C C C C C)<|Bk<|Cn (σ:=Nat×(List Int)×Int) (λs=>([(4,.slice ae rs.length ah),(5,e7<|s.2.2),(6,.slice ab (replicate nd.toNat (default:Int)).length ad),(17,va),(18,e7 ((es.length:Nat):Int)),(19,e7<|(k:Int)),(33,.slice au (commonG nd es (e_ es k).u (e_ es k).v).length ar),(34,e7<|(((commonG nd es (e_ es k).u (e_ es k).v).length:Nat):Int)),(35,e7 ((s.1:Nat):Int))]:Env)) (λs=>vc 3 (.slice ab (replicate nd.toNat (default:Int)).length ad) (s.2.1)::vc 3 (.slice au (commonG nd es (e_ es k).u (e_ es k).v).length ar) (commonG nd es (e_ es k).u (e_ es k).v)::e8 b6 [e7 ((e_ es k).u),e7<|(e_ es k).v] 95::vc 22 (.slice ae rs.length ah) (rs)::e8 b1 [e7 nd,va] 56::(ownR 3 aj++I)) (λs=>(s.1<=(commonG nd es (e_ es k).u (e_ es k).v).length)/\(s.2.2=triK nd es k+(s.1:Int))/\(s.2.1.length=nd.toNat)/\(s.2.1.sum=s.2.2)/\(∀x∈s.2.1,0<=x)) (λs=>(commonG nd es (e_ es k).u (e_ es k).v).length - s.1) (0,out,q) ⟨om,(by rw [hq];simp),aq,a4,av⟩ (Ab C<|Ab Dg<|Ab C<|Ab C<|Ab C<|Ab C<|Ab C<|Ab C<|Ab Dg Bs) Bb ?_
  rintro ⟨k2,M,q2⟩ hp
  dsimp only at hp ⊢
  obtain ⟨a9,a0,ao,ak,aa⟩:=hp
  have aw:k2<(commonG nd es (e_ es k).u (e_ es k).v).length->0<=e_ (commonG nd es (e_ es k).u (e_ es k).v) (k2:Int)/\e_ (commonG nd es (e_ es k).u (e_ es k).v) (k2:Int)<nd:=λh=>common_rng hG (Bx om om)
  have ba:=commonG_len nd es (e_ es k).u (e_ es k).v
  have az:k2<(commonG nd es (e_ es k).u (e_ es k).v).length->0<=e_ M (e_ (commonG nd es (e_ es k).u (e_ es k).v) (k2:Int))/\e_ M (e_ (commonG nd es (e_ es k).u (e_ es k).v) (k2:Int))<=1000000:=λh=>by have h1:=aw h;have h2:=Bx (xs:=M) (i:=e_ (commonG nd es (e_ es k).u (e_ es k).v) (k2:Int)) om om;have h3:=mem_le_sum aa h2;have h4:=aa _ h2;have h5:=ax om;omega
  refine Ar<|Gr (Ch C C)<|As<|A5<|Ap C (λa1=>?_)<|λa1=>?_
  ·refine Bt (Ay<|A5<|Bk<|Ar<|Gr (Az (α:=Int) (xs:=commonG nd es (e_ es k).u (e_ es k).v) Aa ef C C A7 om oo)<|Gr (Bj (xs:=commonG nd es (e_ es k).u (e_ es k).v) ef C A7 om oo)<|Ga C<|As<|Ar<|Gm C<|Gm C<|Gr (Az (α:=Int) (xs:=M) Aa ef C C A7 om oo)<|Gr (Bj (xs:=M) ef C A7 om oo)<|Gr (Rad C C)<|Gr (Az (α:=Int) (xs:=M) Aa ef C C A7 om oo)<|Ge0 (Ci (α:=Int) (xs:=M) (e:=3) (new:=(e_ M<|e_ (commonG nd es (e_ es k).u (e_ es k).v) (k2:Int))+1) ef C C C om oo am) ?_)
   exact As<|Bg (S9 4 5 6 17 18 19 33 34 35 C C C C C C C C C)<|Be<|Gm C<|Gr (Rad C C)<|Ga C<|Bi<|Av<|Ay<|Be<|Gr (Rad C C)<|Gm C<|Bi<|B5 ((k2+1),(List.set M (e_ (commonG nd es (e_ es k).u (e_ es k).v) (k2:Int)).toNat ((e_ M<|e_ (commonG nd es (e_ es k).u (e_ es k).v) (k2:Int))+1)),(q2+1))<|by dsimp only;exact ⟨om,om,(by rw [List.length_set];exact ao),(by rw [sumL_set om om,ak];omega),(λx hx=>by rcases List.mem_or_eq_of_mem_set hx with h|h;(· exact aa x h);(· rw [h];have:=az om;omega))⟩
  exact C7<|A9<|A9<|B3<|Av<|Ay<|Be<|Gr (Rad C C)<|Gm C<|Bi<|B5 ((k+1),(M),(q2))<|by dsimp only;exact ⟨om,(by rw [triK_succ om,a0,show k2=(commonG nd es (e_ es k).u (e_ es k).v).length by omega]),ao,ak,aa⟩
 refine C7<|A9<|A9<|B3<|Ay<|Ar<|Gm C<|Gr (Runs.quo C C om om<|by unfold InR;omega)<|Gm C<|Ga C<|Ga C<|As<|Bf ?_
 have an:(replicate nd.toNat (default:Int)).length=out.length:=by rw [List.length_replicate,aq]
 have a3:q=triS nd es:=by rw [hq,show k=es.length by omega,triK_all]
 exact Cy C C C (vc 3 (.slice ab out.length ad) out::I) (by rw [←an];exact FitW) ⟨ab,ad,out,by rw [←an,a3],rfl⟩
theorem TCount_ok(M:Sl κ I va es)(hG:GrOk nd es):eu Tryz.prog κ 71 [.agg #[e7 nd,va]] I (λr J=>r = .tuple #[e7 (triS nd es / 3),e7 0]/\I=J):=by
 refine Ce1 Tryz.func71 C C ?_
 refine Ar<|Ge1 (Al (cs:=[_,_]) C C C) λb1=>Z ?_
 refine Gc0 (Ac c_ C C<|CheckGen_ok<|Au M)<|Z ?_
 refine Ap C (λc10=>?_)<|λc10=>Z ?_
 ·exact absurd (checkG_ok.2 hG) c10
 refine G.e (Ac c_ C C<|Counts_ok (nd:=nd) (Au M) hG) ?_
 rintro _ _ ⟨_,_,⟨ad,aa,ab,rfl,rfl⟩,rfl,rfl⟩
 refine Z ?_
 exact Cy C C C I Ah ⟨rfl,rfl⟩
end Go.Sl
namespace Go.Sl
open Go.Proofs
set_option maxRecDepth 4000
end Go.Sl
namespace Go.Sl
open Go.Proofs
set_option maxRecDepth 4000
variable{nd:Int}{va:Value}{es:List Pt}
variable {κ:Ctx}{I:List Item}
attribute [local irreducible] W G V D A Runs Eff
theorem COrder_ok(hl:Sl κ I va es)(hG:GrOk nd es)(hT:TabRd κ I 0 tzCells):eu Tryz.prog κ 114 [.agg #[e7 nd,va]] I (λr J=>∃a c,r = .tuple #[.slice a (coreO nd es).length c,e7 0]/\J=vc 3 (.slice a (coreO nd es).length c) (coreO nd es)::I):=by
 refine Ce1 Tryz.func114 C C ?_
 refine Ar<|Ge1 (Al (cs:=[_,_]) C C C) λb1=>Z ?_
 refine Gc0 (Ac c_ C C<|CheckGen_ok<|Au hl)<|Z ?_
 refine Ap C (λc10=>?_)<|λc10=>Z ?_
 ·exact absurd (checkG_ok.2 hG) c10
 refine G.e (Ac c_ C C<|CPeel_ok (nd:=nd) (Au hl) hG<|A8 hT Ah) ?_
 rintro _ _ ⟨_,_,⟨aa,M,ab,ad,rfl,rfl⟩,rfl,rfl⟩
 refine Z ?_
 exact Cy C C C (vc 3 (.slice aa (coreO nd es).length M) (coreO nd es)::I) Bb ⟨aa,M,rfl,rfl⟩
theorem TOrder_ok(hl:Sl κ I va es)(hG:GrOk nd es)(hT:TabRd κ I 0 tzCells):eu Tryz.prog κ 119 [.agg #[e7 nd,va]] I (λr J=>∃a c,r = .tuple #[.slice a (trussO (trisE nd es)).length c,e7 0]/\J=vc 3 (.slice a (trussO (trisE nd es)).length c) (trussO (trisE nd es))::I):=by
 have ab:=edges_le hG
 refine Ce1 Tryz.func119 C C ?_
 refine Ar<|Ge1 (Al (cs:=[_,_]) C C C) λb1=>Z ?_
 refine Gc0 (Ac c_ C C<|CheckGen_ok<|Au hl)<|Z ?_
 refine Ap C (λc10=>?_)<|λc10=>Z ?_
 ·exact absurd (checkG_ok.2 hG) c10
 refine G.e (Ac c_ C C<|TPeel_ok (nd:=nd) (Au hl) hG om<|A8 hT Ah) ?_
 rintro _ _ ⟨_,_,⟨aa,M,ad,ae,rfl,rfl⟩,rfl,rfl⟩
 refine Z ?_
 exact Cy C C C (vc 3 (.slice aa (trussO<|trisE nd es).length M) (trussO<|trisE nd es)::I) Bb ⟨aa,M,rfl,rfl⟩
theorem Proved_ok{n0:Int}{fb:Bool}{xa:Option Addr}{xn xc:Nat}{ea:Option Addr}{ec:Nat}(hl:Sl κ I (.slice ea es.length ec) es)(hG:GrOk nd es)(hT:TabRd κ I 0 tzCells):eu Tryz.prog κ 58 [.agg #[e7 nd,.slice ea es.length ec],.agg #[.bool fb,e7 n0,e7 0,.slice xa xn xc,e7 0,e7 0,.slice none 0 0,.slice none 0 0,.slice none 0 0,e7 0,.slice none 0 0]] I (λr J=>∃a c a2 c2,r = .agg #[.bool fb,e7 n0,e7 0,.slice xa xn xc,e7 0,e7 0,.slice none 0 0,.slice a2 (coreO nd es).length c2,.slice a (coreN nd es).length c,e7 0,.slice none 0 0]/\J=vc 3 (.slice a (coreN nd es).length c) (coreN nd es)::vc 3 (.slice a2 (coreO nd es).length c2) (coreO nd es)::I):=by
 refine Ce2 Tryz.func58 C C ?_
 refine Ar<|Ge1 (Al (cs:=[_,_]) C C C) λb1=>Ge1 (Al (cs:=[_,_,_,_,_,_,_,_,_,_,_]) C C C) λb2=>Ge1 (Am ty42 C) λb3=>Z ?_
 refine Gc2 (Ac c_ C C<|CNumbers_ok (nd:=nd) (Au hl)<|A8 hT Ah) λaa ad=>Z ?_
 refine Ge0 (A3 (cs:=[_,_,_,_,_,_,_,_,_,_,_]) (vs:=[_]) (cs':=[_,_,_,_,_,_,_,_,_,_,_]) ty22)<|Z ?_
 refine G.e (Ac c_ C C<|COrder_ok (nd:=nd) (Au hl) hG<|A8 hT Ah) ?_
 rintro _ _ ⟨_,_,⟨ab,M,rfl,rfl⟩,rfl,rfl⟩
 refine Z ?_
 refine Ge0 (A3 (cs:=[_,_,_,_,_,_,_,_,_,_,_]) (vs:=[_]) (cs':=[_,_,_,_,_,_,_,_,_,_,_]) ty22)<|Z ?_
 refine Ge0 (A3 (cs:=[_,_,_,_,_,_,_,_,_,_,_]) (vs:=[_,_,_,_,_,_,_,_,_,_,_]) (cs':=[_,_,_,_,_,_,_,_,_,_,_]) ty42) ?_
 exact As<|Bf<|B0 C ty42 C mm C (vc 3 (.slice aa (coreN nd es).length ad) (coreN nd es)::vc 3 (.slice ab (coreO nd es).length M) (coreO nd es)::I) Bb ⟨aa,ad,ab,M,rfl,rfl⟩
end Go.Sl
namespace Go.Sl
open Go.Proofs
set_option maxRecDepth 4000
structure EdgeR (nd:Int) (es:List Pt) (S:List Int) (y:Int) (fd:Bool) (num:Int) (Nl Ol:List Int):Prop where
 find:FindP nd es (e_ S 0) (e_ S 1) y
 fd:fd=decide (0<=y)
 none:y<0->num=0/\Nl=[]/\Ol=[]
 some:0<=y->num=e_ (trussG nd es) y/\Nl=trussG nd es/\Ol=trussO (trisE nd es)
theorem find_lt{nd u v y:Int}{es:List Pt}(M:GrOk nd es)(h:FindP nd es u v y):y<(trussG nd es).length:=by
 have hl:(trussG nd es).length=es.length:=by
  unfold trussG
  rw [if_neg (by rw [checkG_ok.2 M];decide)]
  have h1:=(trussN_bound<|tris_ok M).1
  rw [h1];exact List.length_map ..
 rcases h with ⟨_,j,rfl,hj,_⟩|⟨rfl,_⟩
 ·omega
 omega
end Go.Sl
namespace Go.Sl
def ClosB(rows:List (BitVec 64))(k:Nat)(W:BitVec 64):Prop:=∀u∈eo W,k<=degB rows W u
theorem degB_mono{rows:List (BitVec 64)}{W L:BitVec 64}(h:∀u∈eo W,u∈eo L)(v:Int):degB rows W v<=degB rows L v:=by
 unfold degB
 refine List.Nodup.length_le_of_subset (listB_nodup _) λx hx=>?_
 obtain ⟨h1,M⟩:=mem_andB.1 hx
 exact mem_andB.2 ⟨h1,h x M⟩
theorem coreR_ind{rows:List (BitVec 64)}{X:BitVec 64->Nat->List (Int×Nat)->Prop}(h0:∀k,X 0#64 k [])
  (hs:∀left k v,Takes rows left v->X (left &&& ~~~(1#64 <<< v.toNat)) (max k<|degB rows left v) (coreR rows (left &&& ~~~(1#64 <<< v.toNat))<|max k<|degB rows left v)->X left k ((v,max k<|degB rows left v)::coreR rows (left &&& ~~~(1#64 <<< v.toNat)) (max k<|degB rows left v))) :
  ∀(n:Nat) (left:BitVec 64) (k:Nat),(eo left).length=n->X left k (coreR rows left k)
 |0,left,k,h=>by
  have:left=0#64:=Classical.byContradiction λhn=>by
   obtain ⟨u,hu⟩:=nz_listB.1 hn
   have:=List.length_pos_of_mem hu;omega
  subst this
  rw [coreR_zero];exact h0 k
 |n+1,left,k,h=>by
  have aa:left≠0#64:=λe=>by subst e;rw [listB_zero] at h;simp at h
  have M:=takeF_takes (rows:=rows) aa
  rw [coreR_step M]
  have hm:=listB_minus M.mem
  exact hs _ _ _ M<|coreR_ind h0 hs n _ _<|by omega
section
variable {rows:List (BitVec 64)}
theorem coreR_keys(left:BitVec 64)(k:Nat):(ordL (coreR rows left k)).Nodup/\(∀v,v∈ordL (coreR rows left k)↔v∈eo left):=by
 refine coreR_ind (rows:=rows) (X:=λleft k l=>(ordL l).Nodup/\∀v,v∈ordL l↔v∈eo left) (λk=>?_) (λleft k v M ih=>?_) _ left k rfl
 ·refine ⟨List.nodup_nil,λv=>?_⟩
  rw [listB_zero];exact Iff.rfl
 have h0:=(listB_lt M.mem).1
 obtain ⟨h1,h2⟩:=ih
 refine ⟨List.nodup_cons.2 ⟨λhm=>((mem_minus h0).1 ((h2 v).1 hm)).2 rfl,h1⟩,λu=>?_⟩
 show u∈v::ordL (coreR rows _ _)↔_
 rw [List.mem_cons,h2,mem_minus h0]
 constructor
 ·rintro (rfl|h)
  ·exact M.mem
  exact h.1
 intro h
 by_cases e:u=v
 ·exact .inl e
 exact .inr ⟨h,e⟩
theorem coreR_ge(left:BitVec 64)(k:Nat):∀p∈coreR rows left k,k<=p.2:=by
 refine coreR_ind (rows:=rows) (X:=λleft k l=>∀p∈l,k<=p.2) (λk p hp=>by cases hp) (λleft k v hT M p hp=>?_) _ left k rfl
 rcases List.mem_cons.1 hp with rfl|hp
 ·show k<=max k _;omega
 have:=M p hp;omega
theorem coreR_core(left:BitVec 64)(k0:Nat):∀k,k0<k->∃W:BitVec 64,ClosB rows k W/\(∀u∈eo W,u∈eo left)/\∀p∈coreR rows left k0,k<=p.2↔p.1∈eo W:=by
 refine coreR_ind (rows:=rows) (X:=λleft k0 l=>∀k,k0<k->∃W:BitVec 64,ClosB rows k W/\(∀u∈eo W,u∈eo left)/\∀p∈l,k<=p.2↔p.1∈eo W) (λk0 k hk=>?_) (λleft k0 v hT ih k hk=>?_) _ left k0 rfl
 ·refine ⟨0#64,λu M=>?_,λu M=>M,λp hp=>by cases hp⟩
  rw [listB_zero] at M;cases M
 have h0:=(listB_lt hT.mem).1
 by_cases hc:k<=max k0 (degB rows left v)
 ·refine ⟨left,λu M=>?_,λu M=>M,λp hp=>⟨λ_=>?_,λ_=>?_⟩⟩
  ·have:=hT.le u M;omega
  ·rcases List.mem_cons.1 hp with rfl|hp
   ·exact hT.mem
   have h1:p.1∈ordL (coreR rows (left &&& ~~~(1#64 <<< v.toNat))<|max k0<|degB rows left v):=List.mem_map.2 ⟨p,hp,rfl⟩
   exact ((mem_minus h0).1 (((coreR_keys _ _).2 _).1 h1)).1
  rcases List.mem_cons.1 hp with rfl|hp
  ·exact hc
  have:=coreR_ge _ _ p hp;omega
 obtain ⟨W,h1,h2,h3⟩:=ih k (by omega)
 refine ⟨W,h1,λu M=>((mem_minus h0).1 (h2 u M)).1,λp hp=>?_⟩
 rcases List.mem_cons.1 hp with rfl|hp
 ·exact ⟨λh=>absurd h hc,λh=>absurd rfl ((mem_minus h0).1 (h2 _ h)).2⟩
 exact h3 p hp
theorem numL_at{n:Nat}:∀{l:List (Int×Nat)},(ordL l).Nodup->(∀v∈ordL l,0<=v/\v<(n:Int))->∀p∈l,e_ (numL n l) p.1=(p.2:Int):=by
 intro l
 unfold numL
 have hk:∀(l:List (Int×Nat)) (xs:List Int) (u:Int),0<=u->(∀v∈ordL l,0<=v)->u∉ordL l->e_ (l.foldl (λxs p=>xs.set p.1.toNat (p.2:Int)) xs) u=e_ xs u:=λl=>by
  induction l with
  |nil=>intro xs u _ _ _;rfl
  |cons q l ih=>
   intro xs u hu h0 hn
   have hq:0<=q.1:=h0 q.1 List.mem_cons_self
   have ad:u≠q.1:=λe=>hn (by rw [e];exact List.mem_cons_self)
   rw [List.foldl_cons,ih _ u hu (λv hv=>h0 v<|List.mem_cons_of_mem _ hv) λh=>hn<|List.mem_cons_of_mem _ h]
   unfold e_
   rw [List.getD_eq_getElem?_getD,List.getD_eq_getElem?_getD,List.getElem?_set_ne (by omega)]
 have:∀(l:List (Int×Nat)) (xs:List Int),xs.length=n->(ordL l).Nodup->(∀v∈ordL l,0<=v/\v<(n:Int))->∀p∈l,e_ (l.foldl (λxs p=>xs.set p.1.toNat (p.2:Int)) xs) p.1=(p.2:Int):=λl=>by
  induction l with
  |nil=>intro xs _ _ _ p hp;cases hp
  |cons q l ih=>
   intro xs hl hn hr p hp
   obtain ⟨hq,ab⟩:=List.nodup_cons.1 (show (q.1::ordL l).Nodup from hn)
   have aa:∀v∈ordL l,0<=v/\v<(n:Int):=λv hv=>hr v (List.mem_cons_of_mem _ hv)
   have M:=hr q.1 List.mem_cons_self
   rw [List.foldl_cons]
   rcases List.mem_cons.1 hp with rfl|hp
   ·rw [hk l _ p.1 M.1 (λv hv=>(aa v hv).1) hq,at_set _ _ _ _ M.1 M.1<|by omega,if_pos rfl]
   exact ih _ (by rw [List.length_set];exact hl) ab aa p hp
 exact λh1 h2=>this l _ List.length_replicate h1 h2
end
end Go.Sl
namespace Go.Sl
open Go.Proofs
set_option maxRecDepth 4000
variable{u:Int}{l:List Int}
section
variable {nd:Int}{es:List Pt}
theorem coreL_at(M:GrOk nd es)(h0:0<=u)(h1:u<nd):∃p∈coreR0 nd es,p.1=u/\e_ (coreN nd es) u=(p.2:Int):=by
 have hl:=M.rows.len
 have hS:=rows_sym M
 have hk:=coreR_keys (rows:=ek nd es) (allB ((ek nd es).length:Int)) 0
 have hm:u∈ordL (coreR0 nd es):=(hk.2 u).2 ((mem_allN hS.le).2 om)
 obtain ⟨p,hp,rfl⟩:=List.mem_map.1 hm
 refine ⟨p,hp,rfl,?_⟩
 unfold coreN
 rw [if_neg (by rw [checkG_ok.2 M];decide)]
 exact numL_at hk.1 (λv hv=>by have:=(mem_allN hS.le).1 ((hk.2 v).1 hv);omega) p hp
theorem core_pos(M:GrOk nd es)(h0:0<=u)(h1:u<nd):0<=e_ (coreN nd es) u/\e_ (coreN nd es) u<nd:=by
 have hl:=M.rows.len
 have hr:=M.rng
 have hS:=rows_sym M
 obtain ⟨p,hp,e,h⟩:=coreL_at M h0 h1
 have:=coreF_bound (degB_all hS om) _ _ _ (Nat.zero_le _) p hp
 omega
theorem deg_meet(M:GrOk nd es){W:BitVec 64}(hW:∀x,x∈eo W↔x∈l)(h0:0<=u)(h1:u<nd):degB (ek nd es) W u=(meetL (nbG nd es u) l).length:=by
 unfold degB
 have hr:=M.rng
 refine ((List.perm_ext_iff_of_nodup (Dq _) ?_).2 λx=>?_).length_eq
 ·unfold meetL
  exact ((ofL_asc _).imp λh=>by omega:(ofL<|nbG nd es u).Nodup).filter _
 rw [mem_andB,mem_meetL,hW,M.rows.mem h0 h1]
 unfold nbG
 rw [if_neg (by rw [checkG_ok.2 M];decide),mem_ofL,mem_nbL]
 refine and_congr_left λ_=>⟨λh=>h.2,λh=>⟨?_,h⟩⟩
 rcases h with h|h
 ·have:=M.edge _ h;simp only at this;omega
 have:=M.edge _ h;simp only at this;omega
end
theorem asc_len64(h:l.Pairwise (λx0 x1:Int=>x0<x1))(M:∀x∈l,0<=x/\x<64):l.length<=64:=by
 have hs:∀x∈l,x∈(List.range 64).map fun (i:Nat)=>(i:Int):=λx hx=>by
  have:=M x hx
  exact List.mem_map.2 ⟨x.toNat,List.mem_range.2 om,by omega⟩
 have:=List.Nodup.length_le_of_subset (h.imp λh=>by omega:l.Nodup) hs
 rwa [List.length_map,List.length_range] at this
theorem range_valid{n:Int}(hr:0<=n/\n<=64):ValidP (rangeI n) n:=by
 refine ValidP_iff.2 ⟨λx M=>by have:=mem_rangeI.1 M;omega,?_⟩
 unfold rangeI
 refine List.Pairwise.map _ (λa b h=>?_)<|List.pairwise_lt_range (n:=(min n 64).toNat)
 omega
section
variable {nd:Int}{es:List Pt}
theorem coreN_lenG(M:GrOk nd es):((coreN nd es).length:Int)=nd:=by
 have hr:=M.rng
 have hl:=M.rows.len
 unfold coreN
 rw [if_neg (by rw [checkG_ok.2 M];decide),coreL_len];omega
end

end Go.Sl
