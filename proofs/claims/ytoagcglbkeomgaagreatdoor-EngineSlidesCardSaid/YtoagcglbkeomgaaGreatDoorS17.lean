/- A part of the proofs of statements of this seat: contracts of functions, and the plain laws that they lean on. No conditions. -/
import Derived.Test.YtoagcglbkeomgaaGreatDoorS16
set_option linter.unusedVariables false
set_option linter.unusedSimpArgs false
set_option linter.unusedSectionVars false
open List (replicate)
namespace Go.Sl
open Go.Proofs
set_option maxRecDepth 4000
variable{A:List Item}{ad:Option Addr}{c k:Nat}{xs:List Lk}{i j kd mo t u w:Int}{x:Item}{q:Bool}
variable {κ:Ctx}{I:List Item}
theorem FitW{κ:Ctx}{B:List Item}(h:B.Sublist A:=by repeat (first|exact List.Sublist.refl _|exact List.sublist_append_right _ _|apply List.Sublist.cons_cons|apply List.Sublist.cons)):Fit κ A B:=Fit.of_sublist h
theorem At.ow{I:List Item}{xs:List Int}:∀{rs:List (RowG Int)} {i:Int},0<=i->i<rs.length->
  At (ownR 3 rs++I) (vc 3 (.slice (e_ rs i).a (e_ rs i).xs.length (e_ rs i).c) (e_ rs i).xs) (vc 3 (.slice ad xs.length c) xs) (ownR 3 (List.set rs i.toNat ⟨ad,c,xs⟩)++I):=fun {rs} {i} Z h=>by
 obtain ⟨k,rfl⟩:∃k:Nat,i=(k:Int):=⟨i.toNat,by omega⟩
 rw [Int.toNat_natCast]
 clear Z
 induction rs generalizing k with
 |nil=>simp at h;omega
 |cons r rs ih=>
  cases k with
  |zero=>exact At.head _ _ _
  |succ k=>exact At.tail _ (ih k<|by simp at h;omega)
theorem ow_mem{I:List Item}{rs:List (RowG Int)}(Z:0<=i)(h:i<rs.length):vk 3 (e_ rs i).a (e_ rs i).c (e_ rs i).xs∈ownR 3 rs++I:=(At.ow (ad:=none) (c:=0) (xs:=[]) Z h).mem
theorem ow_held{rs:List (RowG Int)}(Z:0<=i)(h:i<rs.length):Sl κ (ownR 3 rs++I) (.slice (e_ rs i).a (e_ rs i).xs.length (e_ rs i).c) (e_ rs i).xs:=De (ow_mem Z h)
theorem At.ow2{I:List Item}{xs:List Int}{rs:List (RowG Int)}{x:RowG Int}(M:0<=i)(h:i<rs.length)(j0:0<=j)(hj:j<rs.length)(Z:j≠i) :
  At (ownR 3 (List.set rs j.toNat x)++I) (vc 3 (.slice (e_ rs i).a (e_ rs i).xs.length (e_ rs i).c) (e_ rs i).xs) (vc 3 (.slice ad xs.length c) xs) (ownR 3 (List.set (List.set rs j.toNat x) i.toNat ⟨ad,c,xs⟩)++I):=by
 have h1:=At.ow (I:=I) (ad:=ad) (c:=c) (xs:=xs) (rs:=List.set rs j.toNat x) (i:=i) M (by rw [List.length_set];exact h)
 rw [En _ _ _ _ j0 M hj,if_neg Z] at h1
 exact h1
theorem Fit.nilow:∀(rs:List (RowG Int)),(∀r∈rs,r=default)->Fit κ I (ownR 3 rs++I)
 |[],_=>Dn _
 |r::rs,h=>by
  refine Co (Fit.nilow rs λx Z=>h x<|List.mem_cons_of_mem _ Z) ?_
  show Fit κ _ (vk 3 r.a r.c r.xs::_)
  rw [h r List.mem_cons_self]
  exact Cf _ _
theorem Atp{I I':List Item}{y:Item}(h:At I x y I':=by repeat (first|exact At.ow asm asm|exact At.ow2 asm asm asm asm asm|apply At.tail)):At I x y I':=h
theorem ow2_mem{I:List Item}{rs:List (RowG Int)}{x:RowG Int}(h0:0<=i)(h:i<rs.length)(M:0<=j)(hj:j<rs.length)(Z:j≠i):vk 3 (e_ rs i).a (e_ rs i).c (e_ rs i).xs∈ownR 3 (List.set rs j.toNat x)++I:=(At.ow2 (ad:=none) (c:=0) (xs:=[]) h0 h M hj Z).mem
theorem Mmp{I:List Item}(h:x∈I:=by repeat (first|exact ow_mem asm asm|exact ow2_mem asm asm asm asm asm|apply List.mem_cons_of_mem)):x∈I:=h
structure RowsI (nd:Int) (es:List Pt) (rs:List (RowG Int)):Prop where
 len:(rs.length:Int)=nd
 row:∀i:Int,0<=i->i<nd->(e_ rs i).xs=nbL es i
theorem RowsI.start{nd:Int}(h:0<=nd):RowsI nd [] (replicate nd.toNat (default:RowG Int)):=⟨by rw [List.length_replicate];omega,λi Z M=>by rw [at_rep _ _ _ Z om];rfl⟩
theorem RowsI.push{nd:Int}{es:List Pt}{rs:List (RowG Int)}(h:RowsI nd (es.take k) rs)(hk:k<es.length)(he:0<=(e_ es k).u/\(e_ es k).u<(e_ es k).v/\(e_ es k).v<nd)(a b:Option Addr)(c d:Nat) :
  RowsI nd (es.take<|k+1) (List.set (List.set rs (e_ es k).u.toNat ⟨a,c,(e_ rs (e_ es k).u).xs++[(e_ es k).v]⟩) (e_ es k).v.toNat ⟨b,d,(e_ rs (e_ es k).v).xs++[(e_ es k).u]⟩):=by
 have hl:=h.len
 refine ⟨by rw [List.length_set,List.length_set];exact hl,λi Z M=>?_⟩
 rw [nbL_take hk,En _ _ _ _ om Z<|by rw [List.length_set];omega,En _ _ _ _ om Z om]
 by_cases e1:(e_ es k).v=i
 ·rw [if_pos e1,if_neg om,if_pos e1]
  show (e_ rs (e_ es k).v).xs++_=_
  rw [e1,h.row i Z M];rfl
 rw [if_neg e1,if_neg e1]
 by_cases e2:(e_ es k).u=i
 ·rw [if_pos e2,if_pos e2]
  show (e_ rs (e_ es k).u).xs++_=_
  rw [e2,h.row i Z M,List.append_nil]
 rw [if_neg e2,if_neg e2,h.row i Z M];simp
theorem eu.at_ow{κ:Ctx}{I:List Item}{rs:List (RowG Int)}{x:RowG Int}(hx:e_ rs i=x)(h0:0<=i)(h:i<rs.length)(aa:x.xs.length<4611686018427387904):eu Tryz.prog κ 163 [.slice x.a x.xs.length x.c] (A++(ownR 3 rs++I)) λr J=>∃R,r = .tuple #[]/\(vc 3 (.slice x.a x.xs.length x.c) (sortZ x.xs)::R).Perm (A++(ownR 3 (List.set rs i.toNat ⟨x.a,x.c,sortZ x.xs⟩)++I))/\J=vc 3 (.slice x.a x.xs.length x.c) (sortZ x.xs)::R:=by
 have Z:=At.ow (I:=I) (ad:=x.a) (c:=x.c) (xs:=sortZ x.xs) (rs:=rs) (i:=i) h0 h
 rw [hx] at Z
 obtain ⟨R,h1,h2⟩:=Z.perm
 rw [sortZ_len] at h2
 have hp:(A++(ownR 3 rs++I)).Perm (vk 3 x.a x.c x.xs::(A++R)):=(List.Perm.append_left A h1).trans List.perm_middle
 have M:(vc 3 (.slice x.a x.xs.length x.c) (sortZ x.xs)::(A++R)).Perm (A++(ownR 3 (List.set rs i.toNat ⟨x.a,x.c,sortZ x.xs⟩)++I)):=(List.perm_middle.symm).trans (List.Perm.append_left A h2.symm)
 exact Cp (C4 hp)<|(sortI_ok (e:=3) aa).mono λr J ⟨e1,e2⟩=>⟨A++R,e1,M,e2⟩
theorem nbL_nodup{nd:Int}:∀{es:List Pt},es.Nodup->(∀e∈es,e.u<e.v)->∀v,(nbL es v).Nodup
  |[],_,_,v=>List.nodup_nil
  |e::es,hn,h,v=>by
    obtain ⟨h1,h2⟩:=List.nodup_cons.1 hn
    have Z:=nbL_nodup (nd:=nd) h2 (λx hx=>h x<|List.mem_cons_of_mem _ hx) v
    have he:=h e List.mem_cons_self
    have e1:nbL (e::es) v=((if e.u=v then [e.v] else [])++(if e.v=v then [e.u] else []))++nbL es v:=rfl
    rw [e1]
    by_cases a:e.u=v
    · rw [if_pos a,if_neg om,List.append_nil]
      refine List.nodup_cons.2 ⟨λM=>?_,Z⟩
      rcases mem_nbL.1 M with hh|hh
      · exact h1 (by have:e=⟨v,e.v⟩:=by rw [Dj];exact ⟨a,rfl⟩
                     rw [this];exact hh)
      · have:=h _ (List.mem_cons_of_mem _ hh);simp only at this;omega
    · rw [if_neg a]
      by_cases b:e.v=v
      · rw [if_pos b,List.nil_append]
        refine List.nodup_cons.2 ⟨λM=>?_,Z⟩
        rcases mem_nbL.1 M with hh|hh
        · have:=h _ (List.mem_cons_of_mem _ hh);simp only at this;omega
        · exact h1 (by have:e=⟨e.u,v⟩:=by rw [Dj];exact ⟨rfl,b⟩
                       rw [this];exact hh)
      · rw [if_neg b];exact Z
theorem sort_nb{nd:Int}{es:List Pt}(Z:GrOk nd es)(v:Int):sortZ (nbL es v)=nbG nd es v:=by
 have hn:=nbL_nodup (nd:=nd) (Fe Z.asc) (λe M=>(Z.edge e M).2.1) v
 unfold nbG
 rw [if_neg (by rw [checkG_ok.2 Z];decide)]
 refine intLin.uniq ?_ (ofL_asc _) λx=>by rw [mem_sortZ,mem_ofL]
 have h1:=sortZ_asc (nbL es v)
 have h2:(sortZ<|nbL es v).Nodup:=(sortZ_perm _).nodup_iff.2 hn
 exact (h1.and h2).imp λh=>by have:=h.1;have:=h.2;omega
structure ListsR (nd:Int) (es:List Pt) (rs rs2:List (RowG Int)):Prop where
 len:(rs.length:Int)=nd/\(rs2.length:Int)=nd
 row:∀i:Int,0<=i->i<nd->e_ rs2 i=⟨(e_ rs i).a,(e_ rs i).c,nbG nd es i⟩/\(e_ rs i).xs.length=(nbG nd es i).length
structure SortI (nd:Int) (rs rs2:List (RowG Int)) (k:Nat):Prop where
 len:rs2.length=rs.length
 done:∀i:Int,0<=i->i<(k:Int)->e_ rs2 i=⟨(e_ rs i).a,(e_ rs i).c,sortZ (e_ rs i).xs⟩
 rest:∀i:Int,(k:Int)<=i->i<rs.length->e_ rs2 i=e_ rs i
theorem SortI.start(nd:Int)(rs:List (RowG Int)):SortI nd rs rs 0:=⟨rfl,λi Z M=>by omega,λi _ _=>rfl⟩
theorem SortI.step{nd:Int}{rs Z:List (RowG Int)}(h:SortI nd rs Z k)(hk:k<rs.length):SortI nd rs (List.set Z ((k:Int)).toNat ⟨(e_ rs k).a,(e_ rs k).c,sortZ (e_ rs k).xs⟩) (k+1):=by
 have hl:=h.len
 refine ⟨by rw [List.length_set];exact hl,λi M h1=>?_,λi M h1=>?_⟩
 ·rw [En _ _ _ _ om M om]
  by_cases e:(k:Int)=i
  ·rw [if_pos e,e]
  rw [if_neg e];exact h.done i M om
 rw [En _ _ _ _ om om om,if_neg om];exact h.rest i om h1
theorem SortI.all{nd:Int}{es:List Pt}{rs Z:List (RowG Int)}(hG:GrOk nd es)(h:SortI nd rs Z k)(M:RowsI nd es rs)(hk:k=rs.length):ListsR nd es rs Z:=by
 have hl:=h.len
 have hr:=M.len
 refine ⟨⟨hr,by omega⟩,λi h0 h1=>?_⟩
 have e:=M.row i h0 h1
 rw [h.done i h0 om,e,sort_nb hG]
 refine ⟨rfl,?_⟩
 rw [←sort_nb hG,sortZ_len]
theorem ListsR.held{nd:Int}{es:List Pt}{rs Z:List (RowG Int)}(h:ListsR nd es rs Z)(h0:0<=i)(h1:i<nd):Sl κ (ownR 3 Z++I) (.slice (e_ rs i).a (e_ rs i).xs.length (e_ rs i).c) (nbG nd es i):=by
 obtain ⟨e,el⟩:=h.row i h0 h1
 have M:=ow_held (κ:=κ) (I:=I) (rs:=Z) (i:=i) h0 (by have:=h.len;omega)
 rw [e] at M
 rw [el];exact M
set_option maxHeartbeats 4000000 in
theorem Lists_ok{nd:Int}{va:Value}{es:List Pt}(hl:Sl κ I va es)(hG:GrOk nd es):eu Tryz.prog κ 132 [.agg #[e7 nd,va]] I (λr J=>∃a c rs ab,r = .slice a (rs:List (RowG Int)).length c/\ListsR nd es rs ab/\J=vk 22 a c rs::(ownR 3 ab++I)):=by
 refine B5 hl.le λba=>?_
 have a6:=hG.rng
 have bk:=edges_le hG
 refine Ce1 Tryz.func132 C C ?_
 refine Ad<|Ge1 (Bd (cs:=[_,_]) C C C) λb1=>Ga C<|Ac<|Ad<|Gf fld38_0 C<|Gl ef ?_
 refine Ge2 (E7 (α:=(RowG Int)) (n:=nd.toNat) Cr ty22 C C C om om dc C) λM aa=>?_
 refine Ga C ?_
 have a8:(replicate nd.toNat (default:RowG Int)).length=nd.toNat:=List.length_replicate
 refine G.pull (p:=0<(replicate nd.toNat (default:RowG Int)).length->M≠none) (vc.isSome mm) λZ=>?_
 refine Ac<|Ar<|Ad<|Gf fld38_1 C<|Gl ty36 ?_
 refine Gr (Bw (α:=Pt) (xs:=es) A6 C<|A8 hl)<|Gm C<|Ac<|A5<|B1 (σ:=Nat×(List<|RowG Int)) (λs=>([(3,.slice M (replicate nd.toNat (default:(RowG Int))).length aa),(12,va),(13,e7 ((es.length:Nat):Int)),(14,e7 ((s.1:Nat):Int))]:Env)) (λs=>vc 22 (.slice M (replicate nd.toNat (default:(RowG Int))).length aa) (s.2)::e8 b1 [e7 nd,va] 38::(ownR 3 s.2++I)) (λs=>(s.1<=es.length)/\(RowsI nd (es.take s.1) s.2)) (λs=>es.length - s.1) (0,replicate nd.toNat (default:(RowG Int))) (show ((0:Nat)<=es.length)/\(RowsI nd (es.take (0:Nat)) (replicate nd.toNat (default:(RowG Int)):List (RowG Int))) from ⟨om,(RowsI.start om)⟩) (cx2<|Aa C<|Aa Cd Bp) (show Fit κ _ (vk 22 M aa (replicate nd.toNat (default:(RowG Int)))::e8 b1 [e7 nd,va] 38::(ownR 3 (replicate nd.toNat (default:(RowG Int)))++I)) from (Co (show Fit κ _ (ownR 3 (replicate nd.toNat (default:(RowG Int)))++(vk 22 M aa (replicate nd.toNat (default:(RowG Int)))::e8 b1 [e7 nd,va] 38::I)) from Co Bl (Fit.nilow _<|λr hr=>List.eq_of_mem_replicate hr))<|C4<|Dk (A:=ownR 3 (replicate nd.toNat (default:(RowG Int)))) (L:=[vk 22 M aa (replicate nd.toNat (default:(RowG Int))),e8 b1 [e7 nd,va] 38]) (T:=I))) ?_
 rintro ⟨k,rs⟩ hp
 dsimp only at hp ⊢
 obtain ⟨hk,hR⟩:=hp
 have a1:=λh:k<es.length=>hG.at h
 have bp:=hR.len
 refine Ad<|Gr (A9 C C)<|Ac<|Ar<|A7 C (λa3=>?_)<|λa3=>?_
 ·refine Aw (Ah<|Ar<|A5<|Ad<|Gr (A3 (α:=Pt) (xs:=es) A6 ty105 C C (A8 hl) om om)<|Gr (Bv (α:=Pt) (xs:=es) ty105 C (A8 hl) om om)<|Ge1 (A4 ty105 C) λb4=>Ge0 (Cz ty105) ?_)
  obtain ⟨bn,be,bi⟩:=a1 om
  have bf:((e_ es k).u)<rs.length:=by omega
  have bo:0<=((e_ es k).v):=by omega
  have bq:((e_ es k).v)<rs.length:=by omega
  have bb:((e_ es k).u)≠((e_ es k).v):=by omega
  have ay:(((e_ rs<|(e_ es k).u).xs).length+([((e_ es k).v)]:List Int).length)*8<=140737488355328:=by rw [hR.row _ om om];have h2:=nbL_len (es.take k) ((e_ es k).u);simp only [List.length_take,List.length_cons,List.length_nil] at h2 ⊢; omega
  have aw:(((e_ rs<|(e_ es k).v).xs).length+([((e_ es k).u)]:List Int).length)*8<=140737488355328:=by rw [hR.row _ om om];have h3:=nbL_len (es.take k) ((e_ es k).v);simp only [List.length_take,List.length_cons,List.length_nil] at h3 ⊢; omega
  refine Ac<|Bs mixed<|Cc (e8 b4 [e7 ((e_ es k).u),e7<|(e_ es k).v] 105::I) 28<|Eg 0 C kr kr kr C kr (λ_ _ _ _ h=>h) (Bm C) C C FitW (Ai C) ?_
  refine Eg 1 C kr kr kr C kr (λ_ _ _ _ h=>h) (Bm C) C C FitW (Ab fld105_0 C) ?_
  refine Eg 2 C kr kr kr C kr (λ_ _ _ _ h=>h) (Bm C) C C FitW (A0 ef) ?_
  refine Eg 3 C kr kr kr C kr (λ_ _ _ _ h=>h) (Bm C) C C FitW (Ai C) ?_
  refine Eg 4 C kr kr kr C kr (λ_ _ _ _ h=>h) (Bm C) C C FitW (Ab fld105_1 C) ?_
  refine Eg 5 C kr kr kr C kr (λ_ _ _ _ h=>h) (Bm C) C C FitW (A0 ef) ?_
  refine Eg 6 C kr kr kr C kr (λ_ _ _ _ h=>h) (Bm C) C C FitW (Ai C) ?_
  refine Eg 7 C kr kr kr C kr (λ_ _ _ _ h=>h) (Bm C) C C FitW (Ab fld105_0 C) ?_
  refine Eg 8 C kr kr kr C kr (λ_ _ _ _ h=>h) (Bm C) C C FitW (A0 ef) ?_
  refine Eg 9 C kr kr kr C kr (λ_ _ _ _ h=>h) (Bm C) C C FitW (Runs.idxs (RowG Int) Cr ty22 C C (Z om) om om) ?_
  refine Eg 11 C kr kr kr C kr (λ_ _ _ _ h=>h) (Bm C) C C FitW (Ab fld105_1 C) ?_
  refine Eg 12 C kr kr kr C kr (λ_ _ _ _ h=>h) (Bm C) C C FitW (A0 ef) ?_
  refine Eg 15 C kr kr kr C kr (λ_ _ _ _ h=>h) (Bm C) C C FitW (Ai C) ?_
  refine Eg 16 C kr kr kr C kr (λ_ _ _ _ h=>h) (Bm C) C C FitW (Ab fld105_1 C) ?_
  refine Eg 17 C kr kr kr C kr (λ_ _ _ _ h=>h) (Bm C) C C FitW (A0 ef) ?_
  refine Eg 18 C kr kr kr C kr (λ_ _ _ _ h=>h) (Bm C) C C FitW (Runs.idxs (RowG Int) Cr ty22 C C (Z om) om om) ?_
  refine Eg 20 C kr kr kr C kr (λ_ _ _ _ h=>h) (Bm C) C C FitW (Ab fld105_0 C) ?_
  refine Eg 21 C kr kr kr C kr (λ_ _ _ _ h=>h) (Bm C) C C FitW (A0 ef) ?_
  refine D.two (e8 b4 [e7 ((e_ es k).u),e7<|(e_ es k).v] 105::vc 22 (.slice M (replicate nd.toNat (default:(RowG Int))).length aa) (rs)::I) 25 FitW ?_
  refine D2.read 10 C kr kr kr C kr (λ_ _ _ _ h=>h) (Bm C) C C FitW (B9 (α:=(RowG Int)) (xs:=rs) (u:= .slice (e_ rs<|(e_ es k).u).a (e_ rs<|(e_ es k).u).xs.length (e_ rs<|(e_ es k).u).c) ty22 C Bi om om C) ?_
  refine D2.read 19 C kr kr kr C kr (λ_ _ _ _ h=>h) (Bm C) C C FitW (B9 (α:=(RowG Int)) (xs:=rs) (u:= .slice (e_ rs<|(e_ es k).v).a (e_ rs<|(e_ es k).v).xs.length (e_ rs<|(e_ es k).v).c) ty22 C Bi om om C) ?_
  refine E6 (rs:=[13,22]) kr C C<|Eu ?_<|D6 ?_
  ·refine D7 C (Bm C) (Ce (α:=Int) (cs:=[_]) (xs:=[(e_ es k).v]) Af ef C C dc dc C C C C) ?_
   rintro _ _ ⟨bg,rfl,rfl⟩
   refine ⟨FitW,?_⟩
   refine E6 (rs:=[14,22]) kr C C<|Eu ?_<|D6 ?_
   ·refine D7 C (Bm C) (B3 (α:=Int) (e:=3) (xs:=(e_ rs<|(e_ es k).u).xs) (ys:=([(e_ es k).v]:List Int)) Af ef C C C Mmp Bi ay dc C<|λ_ _=>Atp) ?_
    rintro _ _ ⟨au,av,rfl,rfl⟩
    refine ⟨FitW,?_⟩
    refine E6 (rs:=[22]) kr C C<|D6 ?_
    refine D7 C (Bm C) (Ce (α:=Int) (cs:=[_]) (xs:=[(e_ es k).u]) Af ef C C dc dc C C C C) ?_
    rintro _ _ ⟨bm,rfl,rfl⟩
    refine ⟨FitW,?_⟩
    refine E6 (rs:=[23]) kr C C<|D6 ?_
    refine D7 C (Bm C) (B3 (α:=Int) (e:=3) (xs:=(e_ rs<|(e_ es k).v).xs) (ys:=([(e_ es k).u]:List Int)) Af ef C C C Mmp Bi aw dc C<|λ_ _=>Atp) ?_
    rintro _ _ ⟨az,an,rfl,rfl⟩
    refine ⟨FitW,?_⟩
    refine D2.read 24 C kr kr kr C kr (λ_ _ _ _ h=>h) (Bm C) C C FitW (Runs.idxs (RowG Int) Cr ty22 C C (Z om) om om) ?_
    refine D2.stop kr ?_
    refine Ds1 25<|Se C (C1 (α:=(RowG Int)) (xs:=rs) (e:=22) (new:=(⟨au,av,((e_ rs<|(e_ es k).u).xs++([(e_ es k).v]:List Int))⟩:RowG Int)) ty22 C C C om (by first|omega|(rw [List.length_set];omega)) am) ?_
    rintro _ _ ⟨rfl,rfl⟩
    refine ⟨FitW,?_⟩
    refine Eg 26 C kr kr kr C kr (λ_ _ _ _ h=>h) (Bm C) C C FitW (Runs.idxs (RowG Int) Cr ty22 C C (Z om) om om) ?_
    refine Ds1 27<|Se C (C1 (α:=(RowG Int)) (xs:=List.set rs ((e_ es k).u).toNat (⟨au,av,((e_ rs<|(e_ es k).u).xs++([(e_ es k).v]:List Int))⟩:RowG Int)) (e:=22) (new:=(⟨az,an,((e_ rs<|(e_ es k).v).xs++([(e_ es k).u]:List Int))⟩:RowG Int)) ty22 C C C om (by first|omega|(rw [List.length_set];omega)) am) ?_
    rintro _ _ ⟨rfl,rfl⟩
    refine ⟨FitW,?_⟩
    exact Dz<|Am<|Ah<|Ap (S4 3 12 13 14)<|Ay<|Gr (Rad C C)<|Gm C<|Bj<|Cb ((k+1),(List.set (List.set rs ((e_ es k).u).toNat (⟨au,av,((e_ rs<|(e_ es k).u).xs++([(e_ es k).v]:List Int))⟩:RowG Int)) ((e_ es k).v).toNat (⟨az,an,((e_ rs<|(e_ es k).v).xs++([(e_ es k).u]:List Int))⟩:RowG Int)))<|by dsimp only;exact ⟨om,(hR.push om om _ _ _ _)⟩
   refine D7 C (Bm C) (Ce (α:=Int) (cs:=[_]) (xs:=[(e_ es k).u]) Af ef C C dc dc C C C C) ?_
   rintro _ _ ⟨bc,rfl,rfl⟩
   refine ⟨FitW,?_⟩
   refine E6 (rs:=[14]) kr C C<|D6 ?_
   refine D7 C (Bm C) (B3 (α:=Int) (e:=3) (xs:=(e_ rs<|(e_ es k).u).xs) (ys:=([(e_ es k).v]:List Int)) Af ef C C C Mmp Bi ay dc C<|λ_ _=>Atp) ?_
   rintro _ _ ⟨ai,ah,rfl,rfl⟩
   refine ⟨FitW,?_⟩
   refine E6 (rs:=[23]) kr C C<|D6 ?_
   refine D7 C (Bm C) (B3 (α:=Int) (e:=3) (xs:=(e_ rs<|(e_ es k).v).xs) (ys:=([(e_ es k).u]:List Int)) Af ef C C C Mmp Bi aw dc C<|λ_ _=>Atp) ?_
   rintro _ _ ⟨ao,ap,rfl,rfl⟩
   refine ⟨FitW,?_⟩
   refine D2.read 24 C kr kr kr C kr (λ_ _ _ _ h=>h) (Bm C) C C FitW (Runs.idxs (RowG Int) Cr ty22 C C (Z om) om om) ?_
   refine D2.stop kr ?_
   refine Ds1 25<|Se C (C1 (α:=(RowG Int)) (xs:=rs) (e:=22) (new:=(⟨ai,ah,((e_ rs<|(e_ es k).u).xs++([(e_ es k).v]:List Int))⟩:RowG Int)) ty22 C C C om (by first|omega|(rw [List.length_set];omega)) am) ?_
   rintro _ _ ⟨rfl,rfl⟩
   refine ⟨FitW,?_⟩
   refine Eg 26 C kr kr kr C kr (λ_ _ _ _ h=>h) (Bm C) C C FitW (Runs.idxs (RowG Int) Cr ty22 C C (Z om) om om) ?_
   refine Ds1 27<|Se C (C1 (α:=(RowG Int)) (xs:=List.set rs ((e_ es k).u).toNat (⟨ai,ah,((e_ rs<|(e_ es k).u).xs++([(e_ es k).v]:List Int))⟩:RowG Int)) (e:=22) (new:=(⟨ao,ap,((e_ rs<|(e_ es k).v).xs++([(e_ es k).u]:List Int))⟩:RowG Int)) ty22 C C C om (by first|omega|(rw [List.length_set];omega)) am) ?_
   rintro _ _ ⟨rfl,rfl⟩
   refine ⟨FitW,?_⟩
   exact Dz<|Am<|Ah<|Ap (S4 3 12 13 14)<|Ay<|Gr (Rad C C)<|Gm C<|Bj<|Cb ((k+1),(List.set (List.set rs ((e_ es k).u).toNat (⟨ai,ah,((e_ rs<|(e_ es k).u).xs++([(e_ es k).v]:List Int))⟩:RowG Int)) ((e_ es k).v).toNat (⟨ao,ap,((e_ rs<|(e_ es k).v).xs++([(e_ es k).u]:List Int))⟩:RowG Int)))<|by dsimp only;exact ⟨om,(hR.push om om _ _ _ _)⟩
  refine D7 C (Bm C) (Ce (α:=Int) (cs:=[_]) (xs:=[(e_ es k).u]) Af ef C C dc dc C C C C) ?_
  rintro _ _ ⟨a9,rfl,rfl⟩
  refine ⟨FitW,?_⟩
  refine E6 (rs:=[13]) kr C C<|D6 ?_
  refine D7 C (Bm C) (Ce (α:=Int) (cs:=[_]) (xs:=[(e_ es k).v]) Af ef C C dc dc C C C C) ?_
  rintro _ _ ⟨a7,rfl,rfl⟩
  refine ⟨FitW,?_⟩
  refine E6 (rs:=[14]) kr C C<|D6 ?_
  refine D7 C (Bm C) (B3 (α:=Int) (e:=3) (xs:=(e_ rs<|(e_ es k).u).xs) (ys:=([(e_ es k).v]:List Int)) Af ef C C C Mmp Bi ay dc C<|λ_ _=>Atp) ?_
  rintro _ _ ⟨ae,ad,rfl,rfl⟩
  refine ⟨FitW,?_⟩
  refine E6 (rs:=[23]) kr C C<|D6 ?_
  refine D7 C (Bm C) (B3 (α:=Int) (e:=3) (xs:=(e_ rs<|(e_ es k).v).xs) (ys:=([(e_ es k).u]:List Int)) Af ef C C C Mmp Bi aw dc C<|λ_ _=>Atp) ?_
  rintro _ _ ⟨aq,ar,rfl,rfl⟩
  refine ⟨FitW,?_⟩
  refine D2.read 24 C kr kr kr C kr (λ_ _ _ _ h=>h) (Bm C) C C FitW (Runs.idxs (RowG Int) Cr ty22 C C (Z om) om om) ?_
  refine D2.stop kr ?_
  refine Ds1 25<|Se C (C1 (α:=(RowG Int)) (xs:=rs) (e:=22) (new:=(⟨ae,ad,((e_ rs<|(e_ es k).u).xs++([(e_ es k).v]:List Int))⟩:RowG Int)) ty22 C C C om (by first|omega|(rw [List.length_set];omega)) am) ?_
  rintro _ _ ⟨rfl,rfl⟩
  refine ⟨FitW,?_⟩
  refine Eg 26 C kr kr kr C kr (λ_ _ _ _ h=>h) (Bm C) C C FitW (Runs.idxs (RowG Int) Cr ty22 C C (Z om) om om) ?_
  refine Ds1 27<|Se C (C1 (α:=(RowG Int)) (xs:=List.set rs ((e_ es k).u).toNat (⟨ae,ad,((e_ rs<|(e_ es k).u).xs++([(e_ es k).v]:List Int))⟩:RowG Int)) (e:=22) (new:=(⟨aq,ar,((e_ rs<|(e_ es k).v).xs++([(e_ es k).u]:List Int))⟩:RowG Int)) ty22 C C C om (by first|omega|(rw [List.length_set];omega)) am) ?_
  rintro _ _ ⟨rfl,rfl⟩
  refine ⟨FitW,?_⟩
  exact Dz<|Am<|Ah<|Ap (S4 3 12 13 14)<|Ay<|Gr (Rad C C)<|Gm C<|Bj<|Cb ((k+1),(List.set (List.set rs ((e_ es k).u).toNat (⟨ae,ad,((e_ rs<|(e_ es k).u).xs++([(e_ es k).v]:List Int))⟩:RowG Int)) ((e_ es k).v).toNat (⟨aq,ar,((e_ rs<|(e_ es k).v).xs++([(e_ es k).u]:List Int))⟩:RowG Int)))<|by dsimp only;exact ⟨om,(hR.push om om _ _ _ _)⟩
 refine Bt<|Aq<|Aq<|Bb<|Ah<|Ar<|Ad<|Gm C ?_
 have ax:RowsI nd es rs:=by rw [List.take_of_length_le om] at hR;exact hR
 refine Gr (Bk Cr C)<|Gm C<|Ac<|A5<|B1 (σ:=Nat×(List<|RowG Int)) (λs=>([(3,.slice M (replicate nd.toNat (default:(RowG Int))).length aa),(45,.slice M (replicate nd.toNat (default:(RowG Int))).length aa),(46,e7<|(((replicate nd.toNat (default:(RowG Int))).length:Nat):Int)),(47,e7 ((s.1:Nat):Int))]:Env)) (λs=>vc 22 (.slice M (replicate nd.toNat (default:(RowG Int))).length aa) (rs)::e8 b1 [e7 nd,va] 38::(ownR 3 s.2++I)) (λs=>(s.1<=rs.length)/\(SortI nd rs s.2 s.1)) (λs=>rs.length - s.1) (0,rs) (show ((0:Nat)<=rs.length)/\(SortI nd rs (rs:List (RowG Int)) (0:Nat)) from ⟨om,(SortI.start nd rs)⟩) (cx2<|Aa C<|Aa Cd Bp) (show Fit κ _ (vc 22 (.slice M (replicate nd.toNat (default:(RowG Int))).length aa) (rs)::e8 b1 [e7 nd,va] 38::(ownR 3 (rs)++I)) from Bg) ?_
 rintro ⟨k2,ab⟩ hp
 dsimp only at hp ⊢
 obtain ⟨bj,aj⟩:=hp
 have bh:=aj.len
 refine Ad<|Gr (A9 C C)<|Ac<|Ar<|A7 C (λa5=>?_)<|λa5=>?_
 ·refine Aw (Ah<|Ar<|A5<|Ad<|Gr (A3 (α:=(RowG Int)) (xs:=rs) Cr ty22 C C Bi om om)<|Gr (B9 (α:=(RowG Int)) (xs:=rs) (u:= .slice (e_ rs k2).a (e_ rs k2).xs.length (e_ rs k2).c) ty22 C Bi om om C)<|Ga C<|Ac<|Ay<|Gm C<|G.e (Aj c_ C C<|eu.at_ow (A:=[vc 22 (.slice M (replicate nd.toNat (default:(RowG Int))).length aa) rs,e8 b1 [e7 nd,va] 38]) (I:=I) (rs:=ab) (i:=(k2:Int)) (x:=(e_ rs k2)) (aj.rest _ (Int.le_refl _) om) om om<|by rw [ax.row _ om om];have:=nbL_len es (k2:Int);omega) ?_)
  rintro _ _ ⟨_,_,⟨R922,rfl,ak,rfl⟩,rfl,rfl⟩
  refine D9 (J:=vc 22 (.slice M (replicate nd.toNat (default:(RowG Int))).length aa) (rs)::e8 b1 [e7 nd,va] 38::(ownR 3 (List.set ab ((k2:Int)).toNat ⟨(e_ rs k2).a,(e_ rs k2).c,sortZ (e_ rs k2).xs⟩)++I)) (C4 ak) ?_
  exact Bj<|Am<|Ah<|Ay<|Gr (Rad C C)<|Gm C<|Bj<|Cb ((k2+1),((List.set ab ((k2:Int)).toNat ⟨(e_ rs k2).a,(e_ rs k2).c,sortZ (e_ rs k2).xs⟩)))<|by dsimp only;exact ⟨om,(aj.step om)⟩
 refine Bt<|Aq<|Aq<|Bb<|Ah<|Ad<|Gm C<|Ga C<|Ac<|Az ?_
 have a4:=aj.all hG ax om
 have a0:(replicate nd.toNat (default:(RowG Int))).length=rs.length:=by have:=ax.len;omega
 exact A1 C C (vk 22 M aa rs::(ownR 3 ab++I)) (by unfold vk;rw [←a0];exact Bg) ⟨M,aa,rs,ab,by rw [←a0],a4,rfl⟩
section
variable {nd:Int}{es:List Pt}{X S Y:List Int}{v:Int}
theorem edgeP_comm(u v:Int):edgeP u v=edgeP v u:=by
 unfold edgeP
 rcases Int.lt_trichotomy u v with h|h|h
 ·rw [if_neg om,if_pos h,if_pos h,if_neg om]
 ·subst h;rfl
 rw [if_pos h,if_neg om,if_neg om,if_pos h]
end
section
variable {nd:Int}{es:List Pt}
theorem edgeP_inj{a b c d:Int}(h:edgeP a b=edgeP c d):(a=c/\b=d)\/(a=d/\b=c):=by
 unfold edgeP at h
 rw [Dj] at h
 simp only at h
 obtain ⟨M,Z⟩:=h
 repeat (first|omega|split at M|split at Z)
theorem edgeP_self{e:Pt}(h:e.u<e.v):edgeP e.u e.v=e:=by
 unfold edgeP
 rw [if_neg om,if_pos h]
theorem mem_commonE(Z:GrOk nd es){v:Int}(h:u≠v):w∈commonG nd es u v↔edgeP u w∈es/\edgeP v w∈es:=by
 have M:∀x:Int,w∈nbG nd es x↔edgeP x w∈es:=λx=>by
  unfold nbG
  rw [if_neg (by rw [checkG_ok.2 Z];decide),mem_ofL,mem_nbL]
  constructor
  ·rintro (h|h)
   ·have:=(Z.edge _ h).2.1
    rw [←edgeP_self this] at h;exact h
   have:=(Z.edge _ h).2.1
   rw [←edgeP_self this,edgeP_comm] at h;exact h
  intro h
  have hlt:=(Z.edge _ h).2.1
  rcases Int.lt_trichotomy x w with h1|h1|h1
  ·have e:edgeP x w=⟨x,w⟩:=edgeP_self (e:=⟨x,w⟩) h1
   exact .inl<|e▸h
  ·subst h1;unfold edgeP at hlt;simp at hlt
  have e:edgeP x w=⟨w,x⟩:=by rw [edgeP_comm];exact edgeP_self (e:=⟨w,x⟩) h1
  exact .inr<|e▸h
 unfold commonG
 rw [if_neg h,mem_meetL,M,M]
theorem edge_ne(Z:GrOk nd es)(h:edgeP u w∈es):u≠w:=λe=>by
 subst e
 have:=(Z.edge _ h).2.1
 unfold edgeP at this;simp at this
theorem idx_at(M:GrOk nd es){e:Pt}(h:e∈es):(es.idxOf e)<es.length/\e_ es ((es.idxOf e:Nat):Int)=e:=by
 have Z:=List.idxOf_lt_length_of_mem h
 exact ⟨Z,by rw [C7 _ _ Z];exact List.getElem_idxOf Z⟩
theorem idx_eq(hG:GrOk nd es){i:Nat}(h:i<es.length):es.idxOf (e_ es i)=i:=by
 have hm:=B7 (xs:=es) (i:=(i:Int)) om om
 obtain ⟨M,Z⟩:=idx_at hG hm
 generalize es.idxOf (e_ es i)=k at M Z
 have hn:=Fe hG.asc
 rw [C7 _ _ M,C7 _ i h] at Z
 rcases Nat.lt_trichotomy k i with h3|h3|h3
 ·exact absurd Z<|(List.pairwise_iff_getElem.1 hn) k i M h h3
 ·exact h3
 exact absurd Z.symm<|(List.pairwise_iff_getElem.1 hn) i k h M h3
theorem idx_inj(Z:GrOk nd es){e f:Pt}(M:e∈es)(hf:f∈es)(h:es.idxOf e=es.idxOf f):e=f:=by
 rw [←(idx_at Z M).2,←(idx_at Z hf).2,h]
theorem tri_at(Z:0<=i)(M:i<es.length):e_ (trisE nd es) i=triE nd es (e_ es i):=by
 obtain ⟨k,rfl⟩:=Int.eq_ofNat_of_zero_le Z
 unfold trisE
 rw [C7 _ k (by rw [List.length_map];omega),C7 _ k om,List.getElem_map]
theorem mem_triE(M:GrOk nd es){e:Pt}(he:e∈es){p:Pt}:p∈triE nd es e↔∃w,edgeP e.u w∈es/\edgeP e.v w∈es/\p=⟨((es.idxOf (edgeP e.u w):Nat):Int),((es.idxOf (edgeP e.v w):Nat):Int)⟩:=by
 have hlt:=(M.edge e he).2.1
 unfold triE
 rw [List.mem_map]
 constructor
 ·rintro ⟨w,hw,rfl⟩
  obtain ⟨h1,Z⟩:=(mem_commonE M om).1 hw
  exact ⟨w,h1,Z,rfl⟩
 rintro ⟨w,h1,Z,rfl⟩
 exact ⟨w,(mem_commonE M om).2 ⟨h1,Z⟩,rfl⟩
theorem triS_iff(M:GrOk nd es){x y:Int}(Z:edgeP x y∈es)(hx:edgeP x w∈es)(hy:edgeP y w∈es):TriS (trisE nd es) ((es.idxOf (edgeP x y):Nat):Int) ((es.idxOf (edgeP x w):Nat):Int) ((es.idxOf (edgeP y w):Nat):Int):=by
 obtain ⟨h1,h2⟩:=idx_at M Z
 unfold TriS
 rw [tri_at om om,h2,mem_triE M Z,mem_triE M Z]
 rcases Int.lt_trichotomy x y with h|h|h
 ·have e:edgeP x y=⟨x,y⟩:=edgeP_self (e:=⟨x,y⟩) h
  rw [e]
  exact .inl ⟨w,hx,hy,rfl⟩
 ·exact absurd h<|edge_ne M Z
 have e:edgeP x y=⟨y,x⟩:=by rw [edgeP_comm];exact edgeP_self (e:=⟨y,x⟩) h
 rw [e]
 exact .inr ⟨w,hy,hx,rfl⟩
theorem triG(Z:GrOk nd es):TriG (trisE nd es):=by
 have hl:(trisE nd es).length=es.length:=List.length_map ..
 refine ⟨λi h0 h1 p hp=>?_,λi a b h0 h1 hT=>?_,λi h0 h1=>?_⟩
 ·rw [hl] at h1
  have M:=B7 h0 h1
  have hlt:=(Z.edge _ M).2.1
  rw [tri_at h0 h1,mem_triE Z M] at hp
  obtain ⟨w,hu,hv,rfl⟩:=hp
  have a1:=(idx_at Z hu).1
  have a2:=(idx_at Z hv).1
  have n1:=edge_ne Z hu
  have n2:=edge_ne Z hv
  have hi:es.idxOf (e_ es i)=i.toNat:=by
   obtain ⟨k,rfl⟩:=Int.eq_ofNat_of_zero_le h0
   rw [idx_eq Z om];simp
  refine ⟨by simp only;omega,λe=>?_,λe=>?_,λe=>?_⟩
  ·have:=edgeP_inj (idx_inj Z hu hv<|by simp only at e;omega);omega
  ·have h3:=idx_inj Z hu M (by simp only at e;omega)
   rw [←edgeP_self hlt] at h3
   have:=edgeP_inj h3;omega
  have h3:=idx_inj Z hv M (by simp only at e;omega)
  rw [←edgeP_self hlt] at h3
  have:=edgeP_inj h3;omega
 ·rw [hl] at h1
  have M:=B7 h0 h1
  have hlt:=(Z.edge _ M).2.1
  have hi:i=((es.idxOf (edgeP (e_ es i).u (e_ es i).v):Nat):Int):=by
   rw [edgeP_self hlt]
   obtain ⟨k,rfl⟩:=Int.eq_ofNat_of_zero_le h0
   rw [idx_eq Z om]
  have ab:edgeP (e_ es i).u (e_ es i).v∈es:=by rw [edgeP_self hlt];exact M
  unfold TriS at hT
  rw [tri_at h0 h1,mem_triE Z M,mem_triE Z M] at hT
  rcases hT with ⟨w,hu,hv,e⟩|⟨w,hu,hv,e⟩
  ·rw [Dj] at e
   obtain ⟨e1,e2⟩:=e
   simp only at e1 e2
   rw [e1,e2]
   have:=triS_iff Z (x:=(e_ es i).u) (y:=w) (w:=(e_ es i).v) hu ab (by rw [edgeP_comm];exact hv)
   rw [edgeP_comm w,←hi] at this;exact this
  rw [Dj] at e
  obtain ⟨e1,e2⟩:=e
  simp only at e1 e2
  rw [e1,e2]
  have:=triS_iff Z (x:=(e_ es i).v) (y:=w) (w:=(e_ es i).u) hv (by rw [edgeP_comm];exact ab) (by rw [edgeP_comm];exact hu)
  rw [edgeP_comm w,edgeP_comm (e_ es i).v (e_ es i).u,←hi] at this;exact this
 rw [hl] at h1
 have M:=B7 h0 h1
 have hlt:=(Z.edge _ M).2.1
 rw [tri_at h0 h1]
 unfold triE
 have aa:(commonG nd es (e_ es i).u (e_ es i).v).Pairwise (λx0 x1:Int=>x0<x1):=by
  unfold commonG;split
  ·exact List.Pairwise.nil
  unfold meetL;exact (ofL_asc _).sublist List.filter_sublist
 refine List.pairwise_map.2<|List.Pairwise.imp_of_mem (fun {w z} hw hz ad=>?_) aa
 obtain ⟨w1,w2⟩:=(mem_commonE Z om).1 hw
 obtain ⟨z1,z2⟩:=(mem_commonE Z om).1 hz
 have q1:=edge_ne Z w1
 have q2:=edge_ne Z w2
 have q3:=edge_ne Z z1
 have q4:=edge_ne Z z2
 refine ⟨λe=>?_,λe=>?_,λe=>?_,λe=>?_⟩
 ·have:=edgeP_inj (idx_inj Z w1 z1<|by simp only at e;omega);omega
 ·have:=edgeP_inj (idx_inj Z w1 z2<|by simp only at e;omega);omega
 ·have:=edgeP_inj (idx_inj Z w2 z1<|by simp only at e;omega);omega
 have:=edgeP_inj (idx_inj Z w2 z2<|by simp only at e;omega);omega
end
section
variable {nd:Int}{X:List Lk}{e:Ev}
def normE(e:Ev):Ev:=⟨e.kd,e.tm,(eh e).u,(eh e).v,e.w,e.lb,e.sg⟩
def setC(xs:List Lk)(e:Ev):List Ev:=if eh e∈xs then [] else [normE e]
def chgL(xs:List Lk)(e:Ev):List Ev:=if e.kd=1 then setC xs e else (xs.filter (hitE e)).map (cutEv e.tm)
theorem setL_mem_len{n:Lk}:∀{xs:List Lk},xs.Pairwise Lk.lt->n∈xs->(setL n xs).length=xs.length
 |[],_,h=>by cases h
 |l::ls,ha,h=>by
  obtain ⟨h1,M⟩:=List.pairwise_cons.1 ha
  unfold setL
  rcases List.mem_cons.1 h with rfl|h
  ·rw [if_neg (show ¬Lk.lt n n from λq=>Pt.lin.irr _ q),if_pos rfl]
  have Z:Lk.lt l n:=h1 n h
  rw [if_neg (show ¬Lk.lt n l from λq=>Pt.lin.asymm Z q),if_neg (show ¬l.p=n.p from λq=>by unfold Lk.lt at Z;rw [q] at Z;exact Pt.lin.irr _ Z),List.length_cons,setL_mem_len M h,List.length_cons]
theorem lk_uniq(ha:xs.Pairwise Lk.lt){a b:Lk}(M:a∈xs)(h2:b∈xs)(hp:a.p=b.p):a=b:=by
 induction xs with
 |nil=>cases M
 |cons l ls ih=>
  obtain ⟨h3,h4⟩:=List.pairwise_cons.1 ha
  rcases List.mem_cons.1 M with e1|h6<;>rcases List.mem_cons.1 h2 with e2|h7
  ·rw [e1,e2]
  ·have Z:=h3 b h7;rw [←e1] at Z;unfold Lk.lt at Z;rw [hp] at Z;exact absurd Z (Pt.lin.irr _)
  ·have Z:=h3 a h6;rw [←e2] at Z;unfold Lk.lt at Z;rw [hp] at Z;exact absurd Z (Pt.lin.irr _)
  exact ih h4 h6 h7
theorem set_not1{n:Lk}{i:Nat}(h:BFound Lk.cmp xs n i q)(ha:xs.Pairwise Lk.lt)(hq:q=true)(Z:¬e_ xs i=n):n∉xs:=λhm=>by
 have M:=h.is
 rw [hq] at M
 obtain ⟨hi,h2⟩:=of_decide_eq_true M.symm
 exact Z<|lk_uniq ha (B7 om om) hm<|(Lk.cmp_zero _ _).1 h2
theorem set_not2{n:Lk}{i:Nat}(h:BFound Lk.cmp xs n i q)(M:xs.Pairwise Lk.lt)(hq:q=false):n∉xs:=λhm=>by
 have Z:=congrArg List.length (setL_new h M hq)
 rw [setL_mem_len M hm] at Z
 have:=h.le
 simp at Z;omega
theorem mem_setL2{n:Lk}:∀{xs:List Lk} (p:Pt),p∈(setL n xs).map Lk.p↔p=n.p\/p∈xs.map Lk.p
 |[],p=>by unfold setL;simp
 |l::ls,p=>by
  unfold setL
  split
  ·simp
  split
  ·rename_i h;simp [h]
  rw [List.map_cons,List.mem_cons,mem_setL2 p,List.map_cons,List.mem_cons]
  constructor
  ·rintro (h|h|h)
   ·exact .inr<|.inl h
   ·exact .inl h
   exact .inr<|.inr h
  rintro (h|h|h)
  ·exact .inr<|.inl h
  ·exact .inl h
  exact .inr<|.inr h
theorem edges_map(X:List Lk):edgesK X=X.map Lk.p:=rfl
def chS(es0 es:List Pt)(c:Ev):List Pt:=if c.kd=1 then (if edgeP c.u c.v∈es0 then es else insB Pt.lt es (edgeP c.u c.v)) else without es (edgeP c.u c.v)
def chE(X:List Lk)(e:Ev)(j:Nat):List Pt:=((chgL X e).take j).foldl (chS (edgesK X)) (edgesK X)
theorem chE_zero:chE X e 0=edgesK X:=rfl
theorem chE_succ{j:Nat}(h:j<(chgL X e).length):chE X e (j+1)=chS (edgesK X) (chE X e j) (e_ (chgL X e) j):=by
 unfold chE;rw [Cj _ j h,List.foldl_append];rfl
theorem cut_edge{l:Lk}(h:l.u<l.v):edgeP (cutEv t l).u (cutEv t l).v=l.p:=by
 show edgeP l.u l.v=_
 unfold edgeP;rw [if_neg om,if_pos h];rfl
theorem cuts_fold{es0:List Pt}:∀(l:List Lk) (es:List Pt),(∀x∈l,x.u<x.v)->(l.map (cutEv t)).foldl (chS es0) es=es.filter λp=>decide (p∉l.map Lk.p)
 |[],es,_=>by
  rw [List.map_nil,List.foldl_nil]
  exact (List.filter_eq_self.2 λp _=>by simp).symm
 |x::l,es,h=>by
  have M:chS es0 es (cutEv t x)=without es x.p:=by
   unfold chS
   rw [cut_edge (h x List.mem_cons_self)]
   exact if_neg (show ¬((2:Int)=1) by decide)
  rw [List.map_cons,List.foldl_cons,M,cuts_fold l _ λy Z=>h y<|List.mem_cons_of_mem _ Z]
  unfold without
  rw [List.filter_filter]
  refine List.filter_congr λp _=>?_
  rw [List.map_cons,←Bool.decide_and,decide_eq_decide,List.mem_cons,not_or]
  exact And.comm
theorem hits_lt(hv:checkS nd X=0)(P:Lk->Bool):∀x∈X.filter P,x.u<x.v:=λx Z=>(val_uv hv x (List.mem_filter.1 Z).1).2.1
theorem ch_end(hv:checkS nd X=0)(hf:FitOk nd e):chE X e (chgL X e).length=edgesK (ep X e):=by
 have ha:=(checkS_iff.1 hv).2.2
 have Z:=stepL_val hv hf
 unfold chE
 rw [List.take_length]
 by_cases hk:e.kd=1
 ·have hs:ep X e=setL (eh e) X:=by unfold ep;rw [if_pos hk]
  have hc:chgL X e=setC X e:=by unfold chgL;rw [if_pos hk]
  rw [hs] at Z
  have h0:=(edgesK_ok hv).asc
  have M:=(edgesK_ok Z).asc
  rw [hs,hc]
  unfold setC
  by_cases hm:eh e∈X
  ·rw [if_pos hm,List.foldl_nil]
   refine Pt.lin.uniq h0 M λp=>?_
   rw [edges_map,edges_map,mem_setL2]
   exact ⟨.inr,λh=>h.elim (λh=>h▸List.mem_map_of_mem hm) id⟩
  rw [if_neg hm,List.foldl_cons,List.foldl_nil]
  have he:edgeP (normE e).u (normE e).v=(eh e).p:=edgeP_self (e:=(eh e).p) (by
   have h2:e.u≠e.v:=(hf.ends.2.2 om).2
   show (if e.v<e.u then e.v else e.u)<(if e.u<e.v then e.v else e.u)
   split<;>split<;>omega)
  unfold chS
  rw [he,if_pos (show (normE e).kd=1 from hk)]
  by_cases hp:(eh e).p∈edgesK X
  ·rw [if_pos hp]
   refine Pt.lin.uniq h0 M λp=>?_
   rw [edges_map (setL _ _),mem_setL2]
   exact ⟨.inr,λh=>h.elim (λh=>h▸hp) id⟩
  rw [if_neg hp]
  refine Pt.lin.uniq (Pt.lin.insB _ h0) M λp=>?_
  rw [mem_insB,edges_map<|setL _ _,mem_setL2];rfl
 have hs:ep X e=X.filter λl=> !hitE e l:=by unfold ep;rw [if_neg hk]
 have hc:chgL X e=(X.filter<|hitE e).map (cutEv e.tm):=by unfold chgL;rw [if_neg hk]
 rw [hs] at Z
 rw [hs,hc,cuts_fold _ _<|hits_lt hv _]
 refine Pt.lin.uniq ((edgesK_ok hv).asc.sublist List.filter_sublist) (edgesK_ok Z).asc λp=>?_
 rw [List.mem_filter,decide_eq_true_eq]
 constructor
 ·rintro ⟨M,h2⟩
  obtain ⟨l,hl,rfl⟩:=List.mem_map.1 M
  refine List.mem_map_of_mem (f:=Lk.p)<|List.mem_filter.2 ⟨hl,?_⟩
  cases hh:hitE e l with
  |false=>rfl
  |true=>exact absurd (List.mem_map_of_mem (f:=Lk.p)<|List.mem_filter.2 ⟨hl,hh⟩) h2
 intro M
 obtain ⟨l,hl,rfl⟩:=List.mem_map.1 M
 obtain ⟨h2,h3⟩:=List.mem_filter.1 hl
 refine ⟨List.mem_map_of_mem (f:=Lk.p) h2,λh4=>?_⟩
 obtain ⟨l2,aa,e2⟩:=List.mem_map.1 h4
 obtain ⟨h5,h6⟩:=List.mem_filter.1 aa
 have:=lk_uniq ha h5 h2 e2
 subst this
 rw [h6] at h3;cases h3
theorem GrOk.subl{es es':List Pt}(h:GrOk nd es)(hs:es'.Sublist es):GrOk nd es':=⟨h.rng,h.asc.sublist hs,λp Z=>h.edge p (hs.subset Z)⟩
structure ChJ (nd:Int) (X:List Lk) (es:List Pt) (c:Ev):Prop where
 ok:GrOk nd es
 ends:endsP nd c.u c.v
 set:c.kd=1->es=edgesK X
 cut:c.kd≠1->edgeP c.u c.v∈es
theorem ch_at(hv:checkS nd X=0)(hf:FitOk nd e){j:Nat}(M:j<(chgL X e).length):ChJ nd X (chE X e j) (e_ (chgL X e) j):=by
 have ha:=(checkS_iff.1 hv).2.2
 have hG:=edgesK_ok hv
 by_cases hk:e.kd=1
 ·have hc:chgL X e=setC X e:=by unfold chgL;rw [if_pos hk]
  have hl:(setC X e).length<=1:=by unfold setC;split<;>simp
  have ae:j=0:=by rw [hc] at M;omega
  subst ae
  have he:e_ (chgL X e) ((0:Nat):Int)=normE e:=by
   rw [hc] at M ⊢
   unfold setC at M ⊢
   split at M
   ·cases M
   rename_i h;rw [if_neg h];rfl
  rw [he,chE_zero]
  have h2:=hf.ends.2.2 om
  have h3:=hf.ends.1
  have h4:=hf.fits
  refine ⟨hG,?_,λ_=>rfl,λh=>absurd hk h⟩
  show endsP nd (if e.v<e.u then e.v else e.u) (if e.u<e.v then e.v else e.u)
  unfold endsP
  split<;>split<;>omega
 have hc:chgL X e=(X.filter<|hitE e).map (cutEv e.tm):=by unfold chgL;rw [if_neg hk]
 have Z:j<(X.filter<|hitE e).length:=by rw [hc,List.length_map] at M;exact M
 have he:e_ (chgL X e) j=cutEv e.tm (e_ (X.filter<|hitE e) (j:Int)):=by
  rw [hc,C7 _ j<|by rw [List.length_map];exact Z,C7 _ j Z,List.getElem_map]
 have hm:=B7 (xs:=X.filter (hitE e)) (i:=(j:Int)) om om
 have hr:=val_uv hv _ (List.mem_filter.1 hm).1
 have hE:chE X e j=(edgesK X).filter λp=>decide (p∉((X.filter<|hitE e).take j).map Lk.p):=by
  unfold chE
  rw [hc,←List.map_take]
  exact cuts_fold _ _ λx hx=>hits_lt hv _ x<|List.mem_of_mem_take hx
 have ab:=Cj (X.filter<|hitE e) j Z
 have aa:=(ha.sublist List.filter_sublist).sublist (List.take_sublist (j+1)<|X.filter<|hitE e)
 rw [ab] at aa
 rw [he,hE]
 generalize e_ (X.filter<|hitE e) (j:Int)=l at *
 refine ⟨hG.subl List.filter_sublist,?_,λh=>absurd h (show ¬((2:Int)=1) by decide),λ_=>?_⟩
 ·show endsP nd l.u l.v
  unfold endsP;omega
 rw [cut_edge hr.2.1,List.mem_filter,decide_eq_true_eq]
 refine ⟨List.mem_map_of_mem (f:=Lk.p) (List.mem_filter.1 hm).1,λh=>?_⟩
 obtain ⟨l2,ad,e2⟩:=List.mem_map.1 h
 have h5:=(List.pairwise_append.1 aa).2.2 l2 ad l (List.mem_singleton.2 rfl)
 unfold Lk.lt at h5
 rw [e2] at h5
 exact Pt.lin.irr _ h5
theorem chg_len(X:List Lk)(e:Ev):(chgL X e).length<=X.length+1:=by
 unfold chgL
 split
 ·unfold setC;split<;>simp
 rw [List.length_map];exact Nat.le_succ_of_le (List.length_filter_le _ _)
end
structure OldI (wd T:Int) (P:List Lk) (tt:Int) (out:List Ev):Prop where
 le:tt<=T+1
 low:∀l∈P,tt<=l.tm+wd
 is:tt=T+1\/∃l∈P,l.tm+wd=tt
 out:out=if tt<=T then (P.filter λl=>decide<|l.tm+wd=tt).map (cutEv tt) else []
section
variable {wd T tt:Int}{P:List Lk}{out:List Ev}{l:Lk}
theorem OldI.zero:OldI wd T [] (T+1) []:=⟨by omega,(λl h=>by cases h),.inl rfl,by rw [if_neg om]⟩
theorem OldI.less(h:OldI wd T P tt out)(M:l.tm+wd<tt):OldI wd T (P++[l]) (l.tm+wd) [cutEv (l.tm+wd) l]:=by
 have h2:=h.le
 refine ⟨by omega,λx hx=>?_,.inr ⟨l,by simp,rfl⟩,?_⟩
 ·rcases List.mem_append.1 hx with hx|hx
  ·have:=h.low x hx;omega
  rw [List.mem_singleton.1 hx];omega
 have Z:(P.filter λx=>decide<|x.tm+wd=l.tm+wd)=[]:=List.filter_eq_nil_iff.2 λx hx=>by
  have:=h.low x hx
  simp;omega
 rw [if_pos om,List.filter_append,Z]
 simp
theorem OldI.eq(h:OldI wd T P tt out)(Z:l.tm+wd=tt)(h2:tt<=T):OldI wd T (P++[l]) tt (out++[cutEv (l.tm+wd) l]):=by
 refine ⟨h.le,λx hx=>?_,?_,?_⟩
 ·rcases List.mem_append.1 hx with hx|hx
  ·exact h.low x hx
  rw [List.mem_singleton.1 hx];omega
 ·exact .inr ⟨l,by simp,Z⟩
 have M:=h.out
 rw [if_pos h2] at M ⊢
 rw [List.filter_append,List.map_append,←M,Z]
 simp [Z]
theorem OldI.no(h:OldI wd T P tt out)(M:¬l.tm+wd<tt)(h2:¬(l.tm+wd=tt/\tt<=T)):OldI wd T (P++[l]) tt out:=by
 refine ⟨h.le,λx hx=>?_,?_,?_⟩
 ·rcases List.mem_append.1 hx with hx|hx
  ·exact h.low x hx
  rw [List.mem_singleton.1 hx];omega
 ·rcases h.is with Z|⟨x,hx,Z⟩
  ·exact .inl Z
  exact .inr ⟨x,List.mem_append_left _ hx,Z⟩
 have Z:=h.out
 by_cases h4:tt<=T
 ·rw [if_pos h4] at Z ⊢
  rw [List.filter_append,Z]
  simp [show ¬l.tm+wd=tt by omega]
 rw [if_neg h4] at Z ⊢; exact Z
def oldL(kd wd mo T:Int)(X:List Lk):List Ev:=if kd=2/\0<X.length/\minT X+wd<=T then goneL 2 wd mo (minT X+wd) X else []
theorem OldI.all(hk:kd=2)(h:OldI wd T P tt out):out=oldL kd wd mo T P:=by
 unfold oldL
 rw [h.out]
 by_cases h0:0<P.length
 ·obtain ⟨⟨x,hx,e⟩,hm⟩:=minT_spec h0
  have h1:=h.low x hx
  have h2:=h.le
  by_cases h3:minT P+wd<=T
  ·have Z:tt=minT P+wd:=by
    rcases h.is with Z|⟨y,M,Z⟩
    ·omega
    have:=hm y M;omega
   rw [if_pos om,if_pos ⟨hk,h0,h3⟩,Z]
   unfold goneL
   congr 1
   refine List.filter_congr λy M=>?_
   have:=hm y M
   rw [inW2,←decide_not,decide_eq_decide];omega
  have Z:¬tt<=T:=by
   rcases h.is with Z|⟨y,M,Z⟩
   ·omega
   have:=hm y M;omega
  rw [if_neg Z,if_neg (show ¬(kd=2/\0<P.length/\minT P+wd<=T) from λq=>h3 q.2.2)]
 have Z:P=[]:=List.length_eq_zero_iff.1 om
 subst Z
 rw [if_neg (show ¬(kd=2/\0<([]:List Lk).length/\minT []+wd<=T) from λq=>h0 q.2.1)];simp
theorem oldL_not{X:List Lk}(Z:¬kd=2):oldL kd wd mo T X=[]:=if_neg λq=>Z q.1
theorem oldL_pos{X:List Lk}:0<(oldL kd wd mo T X).length↔kd=2/\0<X.length/\minT X+wd<=T:=by
 unfold oldL
 constructor
 ·intro h
  split at h
  ·assumption
  cases h
 intro h
 rw [if_pos h]
 obtain ⟨⟨x,Z,e⟩,M⟩:=minT_spec h.2.1
 unfold goneL
 rw [List.length_map]
 exact List.length_pos_of_mem<|List.mem_filter.2 ⟨Z,by rw [inW2];simp;omega⟩
theorem oldL_len(kd wd mo T:Int)(X:List Lk):(oldL kd wd mo T X).length<=X.length:=by
 unfold oldL goneL
 split
 ·rw [List.length_map];exact List.length_filter_le _ _
 simp
end
end Go.Sl
