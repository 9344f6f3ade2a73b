/- A part of the proofs of statements of this seat: contracts of functions, and the plain laws that they lean on. No conditions. -/
import Derived.Test.YtfkcohmipjhfcaaGreatDoorW20
import Derived.Test.YtfkcohmipjhfcaaGreatDoorW19
set_option linter.unusedVariables false
set_option linter.unusedSimpArgs false
set_option linter.unusedSectionVars false
open List (replicate)
namespace Go.Sl
open Go.Proofs
set_option maxRecDepth 4000
variable {κ:Ctx}{I:List Item}
theorem FitW{κ:Ctx}{A B:List Item}(h:B.Sublist A:=by repeat (first|exact List.Sublist.refl _|exact List.sublist_append_right _ _|apply List.Sublist.cons_cons|apply List.Sublist.cons)):Fit κ A B:=Fit.of_sublist h
theorem At.ow{I:List Item}{ad:Option Addr}{c:Nat}{xs:List Int}:∀{rs:List (RowG Int)} {i:Int},0<=i->i<rs.length->
  At (ownR 3 rs++I) (vc 3 (.slice (e_ rs i).a (e_ rs i).xs.length (e_ rs i).c) (e_ rs i).xs) (vc 3 (.slice ad xs.length c) xs) (ownR 3 (List.set rs i.toNat ⟨ad,c,xs⟩)++I):=fun {rs} {i} h0 h=>by
 obtain ⟨k,rfl⟩:∃k:Nat,i=(k:Int):=⟨i.toNat,by omega⟩
 rw [Int.toNat_natCast]
 clear h0
 induction rs generalizing k with
 |nil=>simp at h;omega
 |cons r rs ih=>
  cases k with
  |zero=>exact At.head _ _ _
  |succ k=>exact At.tail _ (ih k (by simp at h;omega))
theorem ow_mem{I:List Item}{rs:List (RowG Int)}{i:Int}(h0:0<=i)(h:i<rs.length):vc 3 (.slice (e_ rs i).a (e_ rs i).xs.length (e_ rs i).c) (e_ rs i).xs∈ownR 3 rs++I:=(At.ow (ad:=none) (c:=0) (xs:=[]) h0 h).mem
theorem ow_held{rs:List (RowG Int)}{i:Int}(h0:0<=i)(h:i<rs.length):Sl κ (ownR 3 rs++I) (.slice (e_ rs i).a (e_ rs i).xs.length (e_ rs i).c) (e_ rs i).xs:=Fo (ow_mem h0 h)
theorem At.ow2{I:List Item}{ad:Option Addr}{c:Nat}{xs:List Int}{rs:List (RowG Int)}{i j:Int}{x:RowG Int}(h0:0<=i)(h:i<rs.length)(j0:0<=j)(hj:j<rs.length)(hne:j≠i) :
  At (ownR 3 (List.set rs j.toNat x)++I) (vc 3 (.slice (e_ rs i).a (e_ rs i).xs.length (e_ rs i).c) (e_ rs i).xs) (vc 3 (.slice ad xs.length c) xs) (ownR 3 (List.set (List.set rs j.toNat x) i.toNat ⟨ad,c,xs⟩)++I):=by
 have h1:=At.ow (I:=I) (ad:=ad) (c:=c) (xs:=xs) (rs:=List.set rs j.toNat x) (i:=i) h0 (by rw [List.length_set];exact h)
 rw [Dh _ _ _ _ j0 h0 hj,if_neg hne] at h1
 exact h1
theorem Fit.nilow:∀(rs:List (RowG Int)),(∀r∈rs,r=default)->Fit κ I (ownR 3 rs++I)
 |[],_=>Fk _
 |r::rs,h=>by
  refine A8 (Fit.nilow rs λx hx=>h x (List.mem_cons_of_mem _ hx)) ?_
  show Fit κ _ (vc 3 (.slice r.a r.xs.length r.c) r.xs::_)
  rw [h r List.mem_cons_self]
  exact B9 _ _
theorem Atp{I I':List Item}{x y:Item}(h:At I x y I':=by repeat (first|exact At.ow asm asm|exact At.ow2 asm asm asm asm asm|apply At.tail)):At I x y I':=h
theorem ow2_mem{I:List Item}{rs:List (RowG Int)}{i j:Int}{x:RowG Int}(h0:0<=i)(h:i<rs.length)(j0:0<=j)(hj:j<rs.length)(hne:j≠i):vc 3 (.slice (e_ rs i).a (e_ rs i).xs.length (e_ rs i).c) (e_ rs i).xs∈ownR 3 (List.set rs j.toNat x)++I:=(At.ow2 (ad:=none) (c:=0) (xs:=[]) h0 h j0 hj hne).mem
theorem Mmp{I:List Item}{x:Item}(h:x∈I:=by repeat (first|exact ow_mem asm asm|exact ow2_mem asm asm asm asm asm|apply List.mem_cons_of_mem)):x∈I:=h
structure RowsI (nd:Int) (es:List Pt) (rs:List (RowG Int)):Prop where
 len:(rs.length:Int)=nd
 row:∀i:Int,0<=i->i<nd->(e_ rs i).xs=nbL es i
theorem RowsI.start{nd:Int}(h:0<=nd):RowsI nd [] (replicate nd.toNat (default:RowG Int)):=⟨by rw [List.length_replicate];omega,λi h0 h1=>by rw [at_rep _ _ _ h0 om];rfl⟩
theorem RowsI.push{nd:Int}{es:List Pt}{k:Nat}{rs:List (RowG Int)}(h:RowsI nd (es.take k) rs)(hk:k<es.length)(he:0<=(e_ es k).u/\(e_ es k).u<(e_ es k).v/\(e_ es k).v<nd)(a b:Option Addr)(c d:Nat) :
  RowsI nd (es.take (k+1)) (List.set (List.set rs (e_ es k).u.toNat ⟨a,c,(e_ rs (e_ es k).u).xs++[(e_ es k).v]⟩) (e_ es k).v.toNat ⟨b,d,(e_ rs (e_ es k).v).xs++[(e_ es k).u]⟩):=by
 have hl:=h.len
 refine ⟨by rw [List.length_set,List.length_set];exact hl,λi h0 h1=>?_⟩
 rw [nbL_take hk,Dh _ _ _ _ om h0 (by rw [List.length_set];omega),Dh _ _ _ _ om h0 om]
 by_cases e1:(e_ es k).v=i
 ·rw [if_pos e1,if_neg om,if_pos e1]
  show (e_ rs (e_ es k).v).xs++_=_
  rw [e1,h.row i h0 h1];rfl
 ·rw [if_neg e1,if_neg e1]
  by_cases e2:(e_ es k).u=i
  ·rw [if_pos e2,if_pos e2]
   show (e_ rs (e_ es k).u).xs++_=_
   rw [e2,h.row i h0 h1,List.append_nil]
  ·rw [if_neg e2,if_neg e2,h.row i h0 h1];simp
theorem eu.at_ow{κ:Ctx}{A I:List Item}{rs:List (RowG Int)}{i:Int}{x:RowG Int}(hx:e_ rs i=x)(h0:0<=i)(h:i<rs.length)(hsz:x.xs.length<4611686018427387904):eu Tryz.prog κ 142 [.slice x.a x.xs.length x.c] (A++(ownR 3 rs++I)) λr J=>∃R,r = .tuple #[]/\(vc 3 (.slice x.a x.xs.length x.c) (sortZ x.xs)::R).Perm (A++(ownR 3 (List.set rs i.toNat ⟨x.a,x.c,sortZ x.xs⟩)++I))/\J=vc 3 (.slice x.a x.xs.length x.c) (sortZ x.xs)::R:=by
 have hat:=At.ow (I:=I) (ad:=x.a) (c:=x.c) (xs:=sortZ x.xs) (rs:=rs) (i:=i) h0 h
 rw [hx] at hat
 obtain ⟨R,h1,h2⟩:=hat.perm
 rw [E7] at h2
 have hp:(A++(ownR 3 rs++I)).Perm (vc 3 (.slice x.a x.xs.length x.c) x.xs::(A++R)):=(List.Perm.append_left A h1).trans List.perm_middle
 have hp2:(vc 3 (.slice x.a x.xs.length x.c) (sortZ x.xs)::(A++R)).Perm (A++(ownR 3 (List.set rs i.toNat ⟨x.a,x.c,sortZ x.xs⟩)++I)):=(List.perm_middle.symm).trans (List.Perm.append_left A h2.symm)
 exact C1 (Fit.perm hp) ((sortI_ok (e:=3) hsz).mono λr J ⟨e1,e2⟩=>⟨A++R,e1,hp2,e2⟩)
theorem nbL_nodup{nd:Int}:∀{es:List Pt},es.Nodup->(∀e∈es,e.u<e.v)->∀v,(nbL es v).Nodup
  |[],_,_,v=>List.nodup_nil
  |e::es,hn,h,v=>by
    obtain ⟨h1,h2⟩:=List.nodup_cons.1 hn
    have ih:=nbL_nodup (nd:=nd) h2 (λx hx=>h x (List.mem_cons_of_mem _ hx)) v
    have he:=h e List.mem_cons_self
    have e1:nbL (e::es) v=((if e.u=v then [e.v] else [])++(if e.v=v then [e.u] else []))++nbL es v:=rfl
    rw [e1]
    by_cases a:e.u=v
    · rw [if_pos a,if_neg om,List.append_nil]
      refine List.nodup_cons.2 ⟨λhm=>?_,ih⟩
      rcases mem_nbL.1 hm with hh|hh
      · exact h1 (by have:e=⟨v,e.v⟩:=by rw [Pt.ext_iff'];exact ⟨a,rfl⟩
                     rw [this];exact hh)
      · have:=h _ (List.mem_cons_of_mem _ hh);simp only at this;omega
    · rw [if_neg a]
      by_cases b:e.v=v
      · rw [if_pos b,List.nil_append]
        refine List.nodup_cons.2 ⟨λhm=>?_,ih⟩
        rcases mem_nbL.1 hm with hh|hh
        · have:=h _ (List.mem_cons_of_mem _ hh);simp only at this;omega
        · exact h1 (by have:e=⟨e.u,v⟩:=by rw [Pt.ext_iff'];exact ⟨rfl,b⟩
                       rw [this];exact hh)
      · rw [if_neg b];exact ih
theorem sort_nb{nd:Int}{es:List Pt}(hG:GrOk nd es)(v:Int):sortZ (nbL es v)=nbG nd es v:=by
 have hn:=nbL_nodup (nd:=nd) (asc_nodup hG.asc) (λe he=>(hG.edge e he).2.1) v
 unfold nbG
 rw [if_neg (by rw [checkG_ok.2 hG];decide)]
 refine intLin.uniq ?_ (ofL_asc _) λx=>by rw [mem_sortZ,mem_ofL]
 have h1:=sortZ_asc (nbL es v)
 have h2:(sortZ (nbL es v)).Nodup:=(sortZ_perm _).nodup_iff.2 hn
 exact (h1.and h2).imp λh=>by have:=h.1;have:=h.2;omega
structure ListsR (nd:Int) (es:List Pt) (rs rs2:List (RowG Int)):Prop where
 len:(rs.length:Int)=nd/\(rs2.length:Int)=nd
 row:∀i:Int,0<=i->i<nd->e_ rs2 i=⟨(e_ rs i).a,(e_ rs i).c,nbG nd es i⟩/\(e_ rs i).xs.length=(nbG nd es i).length
structure SortI (nd:Int) (rs rs2:List (RowG Int)) (k:Nat):Prop where
 len:rs2.length=rs.length
 done:∀i:Int,0<=i->i<(k:Int)->e_ rs2 i=⟨(e_ rs i).a,(e_ rs i).c,sortZ (e_ rs i).xs⟩
 rest:∀i:Int,(k:Int)<=i->i<rs.length->e_ rs2 i=e_ rs i
theorem SortI.start(nd:Int)(rs:List (RowG Int)):SortI nd rs rs 0:=⟨rfl,λi h0 h1=>by omega,λi _ _=>rfl⟩
theorem SortI.step{nd:Int}{rs rs2:List (RowG Int)}{k:Nat}(h:SortI nd rs rs2 k)(hk:k<rs.length):SortI nd rs (List.set rs2 ((k:Int)).toNat ⟨(e_ rs k).a,(e_ rs k).c,sortZ (e_ rs k).xs⟩) (k+1):=by
 have hl:=h.len
 refine ⟨by rw [List.length_set];exact hl,λi h0 h1=>?_,λi h0 h1=>?_⟩
 ·rw [Dh _ _ _ _ om h0 om]
  by_cases e:(k:Int)=i
  ·rw [if_pos e,e]
  ·rw [if_neg e];exact h.done i h0 om
 ·rw [Dh _ _ _ _ om om om,if_neg om];exact h.rest i om h1
theorem SortI.all{nd:Int}{es:List Pt}{rs rs2:List (RowG Int)}{k:Nat}(hG:GrOk nd es)(h:SortI nd rs rs2 k)(hR:RowsI nd es rs)(hk:k=rs.length):ListsR nd es rs rs2:=by
 have hl:=h.len
 have hr:=hR.len
 refine ⟨⟨hr,by omega⟩,λi h0 h1=>?_⟩
 have e:=hR.row i h0 h1
 rw [h.done i h0 om,e,sort_nb hG]
 refine ⟨rfl,?_⟩
 rw [←sort_nb hG,E7]
theorem ListsR.held{nd:Int}{es:List Pt}{rs rs2:List (RowG Int)}(h:ListsR nd es rs rs2){i:Int}(h0:0<=i)(h1:i<nd):Sl κ (ownR 3 rs2++I) (.slice (e_ rs i).a (e_ rs i).xs.length (e_ rs i).c) (nbG nd es i):=by
 obtain ⟨e,el⟩:=h.row i h0 h1
 have hh:=ow_held (κ:=κ) (I:=I) (rs:=rs2) (i:=i) h0 (by have:=h.len;omega)
 rw [e] at hh
 rw [el];exact hh
set_option maxHeartbeats 4000000 in
theorem Lists_ok{nd:Int}{va:Value}{es:List Pt}(hl:Sl κ I va es)(hG:GrOk nd es):eu Tryz.prog κ 288 [.agg #[e7 nd,va]] I (λr J=>∃a c rs rs2,r = .slice a (rs:List (RowG Int)).length c/\ListsR nd es rs rs2/\J=vc 22 (.slice a rs.length c) rs::(ownR 3 rs2++I)):=by
 refine Cg hl.le λhmax=>?_
 have hrng:=hG.rng
 have hle:=edges_le hG
 refine Ce1 Tryz.func288 C C ?_
 refine Aj (Ge1 (Bg (cs:=[_,_]) C C C) λb1=>Ga C (Ah (Aj (Gf fld48_0 C (Gl ef ?_)))))
 refine Ge2 (Cw (α:=(RowG Int)) (n:=nd.toNat) B5 ty22 C C C om om dc C) λad2 cp3=>?_
 refine Ga C ?_
 have hrep:(replicate nd.toNat (default:RowG Int)).length=nd.toNat:=List.length_replicate
 refine G.pull (p:=0<(replicate nd.toNat (default:RowG Int)).length->ad2≠none) (vc.isSome mm) λhsome=>?_
 refine Ah (Au (Aj (Gf fld48_1 C (Gl ty46 ?_))))
 refine Gr (Cb (α:=Pt) (xs:=es) Bu C (Bj hl)) (Gm C (Ah (A6 (Ca (σ:=Nat×(List (RowG Int))) (λs=>([(3,.slice ad2 (replicate nd.toNat (default:(RowG Int))).length cp3),(12,va),(13,e7 ((es.length:Nat):Int)),(14,e7 ((s.1:Nat):Int))]:Env)) (λs=>vc 22 (.slice ad2 (replicate nd.toNat (default:(RowG Int))).length cp3) (s.2)::e8 b1 [e7 nd,va] 48::(ownR 3 s.2++I)) (λs=>(s.1<=es.length)/\(RowsI nd (es.take s.1) s.2)) (λs=>es.length - s.1) (0,replicate nd.toNat (default:(RowG Int))) ⟨om,(RowsI.start om)⟩ (Aa C (Aa C (Aa C (Aa Cr Bq)))) (A8 (show Fit κ _ (ownR 3 (replicate nd.toNat (default:(RowG Int)))++(vc 22 (.slice ad2 (replicate nd.toNat (default:(RowG Int))).length cp3) (replicate nd.toNat (default:(RowG Int)))::e8 b1 [e7 nd,va] 48::I)) from A8 Bv (Fit.nilow _ (λr hr=>List.eq_of_mem_replicate hr))) (Fit.perm (perm_fr (A:=ownR 3 (replicate nd.toNat (default:(RowG Int)))) (L:=[vc 22 (.slice ad2 (replicate nd.toNat (default:(RowG Int))).length cp3) (replicate nd.toNat (default:(RowG Int))),e8 b1 [e7 nd,va] 48]) (T:=I)))) ?_))))
 rintro ⟨k,rs⟩ hp
 dsimp only at hp ⊢
 obtain ⟨hk,hR⟩:=hp
 have hed:=λh:k<es.length=>hG.at h
 have hRl:=hR.len
 refine Aj (Gr (Bi C C) (Ah (Au (Bd C (λc15=>?_) (λc15=>?_)))))
 ·refine A4 (Ai (Au (A6 (Aj (Gr (A2 (α:=Pt) (xs:=es) Bu ty135 C C (Bj hl) om om) (Gr (B7 (α:=Pt) (xs:=es) ty135 C (Bj hl) om om) (Ge1 (A9 ty135 C) λb4=>Ge0 (Cs ty135) ?_)))))))
  obtain ⟨hu0,huv,hvn⟩:=hed om
  have hur:((e_ es k).u)<rs.length:=by omega
  have hv0:0<=((e_ es k).v):=by omega
  have hvr:((e_ es k).v)<rs.length:=by omega
  have hune:((e_ es k).u)≠((e_ es k).v):=by omega
  have hau:(((e_ rs ((e_ es k).u)).xs).length+([((e_ es k).v)]:List Int).length)*8<=140737488355328:=by rw [hR.row _ om om];have h2:=nbL_len (es.take k) ((e_ es k).u);simp only [List.length_take,List.length_cons,List.length_nil] at h2 ⊢; omega
  have hav:(((e_ rs ((e_ es k).v)).xs).length+([((e_ es k).u)]:List Int).length)*8<=140737488355328:=by rw [hR.row _ om om];have h3:=nbL_len (es.take k) ((e_ es k).v);simp only [List.length_take,List.length_cons,List.length_nil] at h3 ⊢; omega
  refine Ah (Bt mixed (C9 (e8 b4 [e7 ((e_ es k).u),e7 ((e_ es k).v)] 135::I) 28 (Ef 0 C kr kr kr C kr (λ_ _ _ _ h=>h) (Bm C) C C FitW (Af C) ?_)))
  refine Ef 1 C kr kr kr C kr (λ_ _ _ _ h=>h) (Bm C) C C FitW (Ab fld135_0 C) ?_
  refine Ef 2 C kr kr kr C kr (λ_ _ _ _ h=>h) (Bm C) C C FitW (As ef) ?_
  refine Ef 3 C kr kr kr C kr (λ_ _ _ _ h=>h) (Bm C) C C FitW (Af C) ?_
  refine Ef 4 C kr kr kr C kr (λ_ _ _ _ h=>h) (Bm C) C C FitW (Ab fld135_1 C) ?_
  refine Ef 5 C kr kr kr C kr (λ_ _ _ _ h=>h) (Bm C) C C FitW (As ef) ?_
  refine Ef 6 C kr kr kr C kr (λ_ _ _ _ h=>h) (Bm C) C C FitW (Af C) ?_
  refine Ef 7 C kr kr kr C kr (λ_ _ _ _ h=>h) (Bm C) C C FitW (Ab fld135_0 C) ?_
  refine Ef 8 C kr kr kr C kr (λ_ _ _ _ h=>h) (Bm C) C C FitW (As ef) ?_
  refine Ef 9 C kr kr kr C kr (λ_ _ _ _ h=>h) (Bm C) C C FitW (Runs.idxs (RowG Int) B5 ty22 C C (hsome om) om om) ?_
  refine Ef 11 C kr kr kr C kr (λ_ _ _ _ h=>h) (Bm C) C C FitW (Ab fld135_1 C) ?_
  refine Ef 12 C kr kr kr C kr (λ_ _ _ _ h=>h) (Bm C) C C FitW (As ef) ?_
  refine Ef 15 C kr kr kr C kr (λ_ _ _ _ h=>h) (Bm C) C C FitW (Af C) ?_
  refine Ef 16 C kr kr kr C kr (λ_ _ _ _ h=>h) (Bm C) C C FitW (Ab fld135_1 C) ?_
  refine Ef 17 C kr kr kr C kr (λ_ _ _ _ h=>h) (Bm C) C C FitW (As ef) ?_
  refine Ef 18 C kr kr kr C kr (λ_ _ _ _ h=>h) (Bm C) C C FitW (Runs.idxs (RowG Int) B5 ty22 C C (hsome om) om om) ?_
  refine Ef 20 C kr kr kr C kr (λ_ _ _ _ h=>h) (Bm C) C C FitW (Ab fld135_0 C) ?_
  refine Ef 21 C kr kr kr C kr (λ_ _ _ _ h=>h) (Bm C) C C FitW (As ef) ?_
  refine D.two (e8 b4 [e7 ((e_ es k).u),e7 ((e_ es k).v)] 135::vc 22 (.slice ad2 (replicate nd.toNat (default:(RowG Int))).length cp3) (rs)::I) 25 FitW ?_
  refine D2.read 10 C kr kr kr C kr (λ_ _ _ _ h=>h) (Bm C) C C FitW (Ct (α:=(RowG Int)) (xs:=rs) (u:= .slice (e_ rs ((e_ es k).u)).a (e_ rs ((e_ es k).u)).xs.length (e_ rs ((e_ es k).u)).c) ty22 C Bk om om C) ?_
  refine D2.read 19 C kr kr kr C kr (λ_ _ _ _ h=>h) (Bm C) C C FitW (Ct (α:=(RowG Int)) (xs:=rs) (u:= .slice (e_ rs ((e_ es k).v)).a (e_ rs ((e_ es k).v)).xs.length (e_ rs ((e_ es k).v)).c) ty22 C Bk om om C) ?_
  refine Fs (rs:=[13,22]) kr C C (Ex ?_ (En ?_))
  ·refine Ep C (Bm C) (Cj (α:=Int) (cs:=[_]) (xs:=[(e_ es k).v]) Ad ef C C dc dc C C C C) ?_
   rintro _ _ ⟨ad5,rfl,rfl⟩
   refine ⟨FitW,?_⟩
   refine Fs (rs:=[14,22]) kr C C (Ex ?_ (En ?_))
   ·refine Ep C (Bm C) (Cn (α:=Int) (e:=3) (xs:=(e_ rs ((e_ es k).u)).xs) (ys:=([(e_ es k).v]:List Int)) Ad ef C C C Mmp Bk hau dc C (λ_ _=>Atp)) ?_
    rintro _ _ ⟨ad6,cp7,rfl,rfl⟩
    refine ⟨FitW,?_⟩
    refine Fs (rs:=[22]) kr C C (En ?_)
    refine Ep C (Bm C) (Cj (α:=Int) (cs:=[_]) (xs:=[(e_ es k).u]) Ad ef C C dc dc C C C C) ?_
    rintro _ _ ⟨ad8,rfl,rfl⟩
    refine ⟨FitW,?_⟩
    refine Fs (rs:=[23]) kr C C (En ?_)
    refine Ep C (Bm C) (Cn (α:=Int) (e:=3) (xs:=(e_ rs ((e_ es k).v)).xs) (ys:=([(e_ es k).u]:List Int)) Ad ef C C C Mmp Bk hav dc C (λ_ _=>Atp)) ?_
    rintro _ _ ⟨ad9,cp10,rfl,rfl⟩
    refine ⟨FitW,?_⟩
    refine D2.read 24 C kr kr kr C kr (λ_ _ _ _ h=>h) (Bm C) C C FitW (Runs.idxs (RowG Int) B5 ty22 C C (hsome om) om om) ?_
    refine D2.stop kr ?_
    refine Ds1 25 (Se C (Cy (α:=(RowG Int)) (xs:=rs) (e:=22) (new:=(⟨ad6,cp7,((e_ rs ((e_ es k).u)).xs++([(e_ es k).v]:List Int))⟩:RowG Int)) ty22 C C C om (by first|omega|(rw [List.length_set];omega)) am) ?_)
    rintro _ _ ⟨rfl,rfl⟩
    refine ⟨FitW,?_⟩
    refine Ef 26 C kr kr kr C kr (λ_ _ _ _ h=>h) (Bm C) C C FitW (Runs.idxs (RowG Int) B5 ty22 C C (hsome om) om om) ?_
    refine Ds1 27 (Se C (Cy (α:=(RowG Int)) (xs:=List.set rs ((e_ es k).u).toNat (⟨ad6,cp7,((e_ rs ((e_ es k).u)).xs++([(e_ es k).v]:List Int))⟩:RowG Int)) (e:=22) (new:=(⟨ad9,cp10,((e_ rs ((e_ es k).v)).xs++([(e_ es k).u]:List Int))⟩:RowG Int)) ty22 C C C om (by first|omega|(rw [List.length_set];omega)) am) ?_)
    rintro _ _ ⟨rfl,rfl⟩
    refine ⟨FitW,?_⟩
    exact Dz (Ak (Ai (Av (S4 3 12 13 14 C C C C) (A0 (Gr (Rad C C) (Gm C (Bf (Ch ((k+1),(List.set (List.set rs ((e_ es k).u).toNat (⟨ad6,cp7,((e_ rs ((e_ es k).u)).xs++([(e_ es k).v]:List Int))⟩:RowG Int)) ((e_ es k).v).toNat (⟨ad9,cp10,((e_ rs ((e_ es k).v)).xs++([(e_ es k).u]:List Int))⟩:RowG Int))) (by dsimp only;exact ⟨om,(hR.push om om _ _ _ _)⟩)))))))))
   ·refine Ep C (Bm C) (Cj (α:=Int) (cs:=[_]) (xs:=[(e_ es k).u]) Ad ef C C dc dc C C C C) ?_
    rintro _ _ ⟨ad11,rfl,rfl⟩
    refine ⟨FitW,?_⟩
    refine Fs (rs:=[14]) kr C C (En ?_)
    refine Ep C (Bm C) (Cn (α:=Int) (e:=3) (xs:=(e_ rs ((e_ es k).u)).xs) (ys:=([(e_ es k).v]:List Int)) Ad ef C C C Mmp Bk hau dc C (λ_ _=>Atp)) ?_
    rintro _ _ ⟨ad12,cp13,rfl,rfl⟩
    refine ⟨FitW,?_⟩
    refine Fs (rs:=[23]) kr C C (En ?_)
    refine Ep C (Bm C) (Cn (α:=Int) (e:=3) (xs:=(e_ rs ((e_ es k).v)).xs) (ys:=([(e_ es k).u]:List Int)) Ad ef C C C Mmp Bk hav dc C (λ_ _=>Atp)) ?_
    rintro _ _ ⟨ad14,cp15,rfl,rfl⟩
    refine ⟨FitW,?_⟩
    refine D2.read 24 C kr kr kr C kr (λ_ _ _ _ h=>h) (Bm C) C C FitW (Runs.idxs (RowG Int) B5 ty22 C C (hsome om) om om) ?_
    refine D2.stop kr ?_
    refine Ds1 25 (Se C (Cy (α:=(RowG Int)) (xs:=rs) (e:=22) (new:=(⟨ad12,cp13,((e_ rs ((e_ es k).u)).xs++([(e_ es k).v]:List Int))⟩:RowG Int)) ty22 C C C om (by first|omega|(rw [List.length_set];omega)) am) ?_)
    rintro _ _ ⟨rfl,rfl⟩
    refine ⟨FitW,?_⟩
    refine Ef 26 C kr kr kr C kr (λ_ _ _ _ h=>h) (Bm C) C C FitW (Runs.idxs (RowG Int) B5 ty22 C C (hsome om) om om) ?_
    refine Ds1 27 (Se C (Cy (α:=(RowG Int)) (xs:=List.set rs ((e_ es k).u).toNat (⟨ad12,cp13,((e_ rs ((e_ es k).u)).xs++([(e_ es k).v]:List Int))⟩:RowG Int)) (e:=22) (new:=(⟨ad14,cp15,((e_ rs ((e_ es k).v)).xs++([(e_ es k).u]:List Int))⟩:RowG Int)) ty22 C C C om (by first|omega|(rw [List.length_set];omega)) am) ?_)
    rintro _ _ ⟨rfl,rfl⟩
    refine ⟨FitW,?_⟩
    exact Dz (Ak (Ai (Av (S4 3 12 13 14 C C C C) (A0 (Gr (Rad C C) (Gm C (Bf (Ch ((k+1),(List.set (List.set rs ((e_ es k).u).toNat (⟨ad12,cp13,((e_ rs ((e_ es k).u)).xs++([(e_ es k).v]:List Int))⟩:RowG Int)) ((e_ es k).v).toNat (⟨ad14,cp15,((e_ rs ((e_ es k).v)).xs++([(e_ es k).u]:List Int))⟩:RowG Int))) (by dsimp only;exact ⟨om,(hR.push om om _ _ _ _)⟩)))))))))
  ·refine Ep C (Bm C) (Cj (α:=Int) (cs:=[_]) (xs:=[(e_ es k).u]) Ad ef C C dc dc C C C C) ?_
   rintro _ _ ⟨ad16,rfl,rfl⟩
   refine ⟨FitW,?_⟩
   refine Fs (rs:=[13]) kr C C (En ?_)
   refine Ep C (Bm C) (Cj (α:=Int) (cs:=[_]) (xs:=[(e_ es k).v]) Ad ef C C dc dc C C C C) ?_
   rintro _ _ ⟨ad17,rfl,rfl⟩
   refine ⟨FitW,?_⟩
   refine Fs (rs:=[14]) kr C C (En ?_)
   refine Ep C (Bm C) (Cn (α:=Int) (e:=3) (xs:=(e_ rs ((e_ es k).u)).xs) (ys:=([(e_ es k).v]:List Int)) Ad ef C C C Mmp Bk hau dc C (λ_ _=>Atp)) ?_
   rintro _ _ ⟨ad18,cp19,rfl,rfl⟩
   refine ⟨FitW,?_⟩
   refine Fs (rs:=[23]) kr C C (En ?_)
   refine Ep C (Bm C) (Cn (α:=Int) (e:=3) (xs:=(e_ rs ((e_ es k).v)).xs) (ys:=([(e_ es k).u]:List Int)) Ad ef C C C Mmp Bk hav dc C (λ_ _=>Atp)) ?_
   rintro _ _ ⟨ad20,cp21,rfl,rfl⟩
   refine ⟨FitW,?_⟩
   refine D2.read 24 C kr kr kr C kr (λ_ _ _ _ h=>h) (Bm C) C C FitW (Runs.idxs (RowG Int) B5 ty22 C C (hsome om) om om) ?_
   refine D2.stop kr ?_
   refine Ds1 25 (Se C (Cy (α:=(RowG Int)) (xs:=rs) (e:=22) (new:=(⟨ad18,cp19,((e_ rs ((e_ es k).u)).xs++([(e_ es k).v]:List Int))⟩:RowG Int)) ty22 C C C om (by first|omega|(rw [List.length_set];omega)) am) ?_)
   rintro _ _ ⟨rfl,rfl⟩
   refine ⟨FitW,?_⟩
   refine Ef 26 C kr kr kr C kr (λ_ _ _ _ h=>h) (Bm C) C C FitW (Runs.idxs (RowG Int) B5 ty22 C C (hsome om) om om) ?_
   refine Ds1 27 (Se C (Cy (α:=(RowG Int)) (xs:=List.set rs ((e_ es k).u).toNat (⟨ad18,cp19,((e_ rs ((e_ es k).u)).xs++([(e_ es k).v]:List Int))⟩:RowG Int)) (e:=22) (new:=(⟨ad20,cp21,((e_ rs ((e_ es k).v)).xs++([(e_ es k).u]:List Int))⟩:RowG Int)) ty22 C C C om (by first|omega|(rw [List.length_set];omega)) am) ?_)
   rintro _ _ ⟨rfl,rfl⟩
   refine ⟨FitW,?_⟩
   exact Dz (Ak (Ai (Av (S4 3 12 13 14 C C C C) (A0 (Gr (Rad C C) (Gm C (Bf (Ch ((k+1),(List.set (List.set rs ((e_ es k).u).toNat (⟨ad18,cp19,((e_ rs ((e_ es k).u)).xs++([(e_ es k).v]:List Int))⟩:RowG Int)) ((e_ es k).v).toNat (⟨ad20,cp21,((e_ rs ((e_ es k).v)).xs++([(e_ es k).u]:List Int))⟩:RowG Int))) (by dsimp only;exact ⟨om,(hR.push om om _ _ _ _)⟩)))))))))
 ·refine Bp (Ac (Ac (Aw (Ai (Au (Aj (Gm C ?_)))))))
  have hR2:RowsI nd es rs:=by rw [List.take_of_length_le om] at hR;exact hR
  refine Gr (Bz B5 C) (Gm C (Ah (A6 (Ca (σ:=Nat×(List (RowG Int))) (λs=>([(3,.slice ad2 (replicate nd.toNat (default:(RowG Int))).length cp3),(45,.slice ad2 (replicate nd.toNat (default:(RowG Int))).length cp3),(46,e7 ((((replicate nd.toNat (default:(RowG Int))).length:Nat):Int))),(47,e7 ((s.1:Nat):Int))]:Env)) (λs=>vc 22 (.slice ad2 (replicate nd.toNat (default:(RowG Int))).length cp3) (rs)::e8 b1 [e7 nd,va] 48::(ownR 3 s.2++I)) (λs=>(s.1<=rs.length)/\(SortI nd rs s.2 s.1)) (λs=>rs.length - s.1) (0,rs) ⟨om,(SortI.start nd rs)⟩ (Aa C (Aa C (Aa C (Aa Cr Bq)))) A5 ?_))))
  rintro ⟨k2,rs2⟩ hp
  dsimp only at hp ⊢
  obtain ⟨hk2,hSI⟩:=hp
  have hSl:=hSI.len
  refine Aj (Gr (Bi C C) (Ah (Au (Bd C (λc48=>?_) (λc48=>?_)))))
  ·refine A4 (Ai (Au (A6 (Aj (Gr (A2 (α:=(RowG Int)) (xs:=rs) B5 ty22 C C Bk om om) (Gr (Ct (α:=(RowG Int)) (xs:=rs) (u:= .slice (e_ rs k2).a (e_ rs k2).xs.length (e_ rs k2).c) ty22 C Bk om om C) (Ga C (Ah (A0 (Gm C (G.e (Am call142 C C (eu.at_ow (A:=[vc 22 (.slice ad2 (replicate nd.toNat (default:(RowG Int))).length cp3) rs,e8 b1 [e7 nd,va] 48]) (I:=I) (rs:=rs2) (i:=(k2:Int)) (x:=(e_ rs k2)) (hSI.rest _ (Int.le_refl _) om) om om (by rw [hR2.row _ om om];have:=nbL_len es (k2:Int);omega))) ?_)))))))))))
   rintro _ _ ⟨_,_,⟨R922,rfl,hpR922,rfl⟩,rfl,rfl⟩
   refine G.fit (J:=vc 22 (.slice ad2 (replicate nd.toNat (default:(RowG Int))).length cp3) (rs)::e8 b1 [e7 nd,va] 48::(ownR 3 (List.set rs2 ((k2:Int)).toNat ⟨(e_ rs k2).a,(e_ rs k2).c,sortZ (e_ rs k2).xs⟩)++I)) (Fit.perm hpR922) ?_
   exact Bf (Ak (Ai (A0 (Gr (Rad C C) (Gm C (Bf (Ch ((k2+1),((List.set rs2 ((k2:Int)).toNat ⟨(e_ rs k2).a,(e_ rs k2).c,sortZ (e_ rs k2).xs⟩))) (by dsimp only;exact ⟨om,(hSI.step om)⟩))))))))
  ·refine Bp (Ac (Ac (Aw (Ai (Aj (Gm C (Ga C (Ah (Az ?_)))))))))
   have hLR:=hSI.all hG hR2 om
   have hwl:(replicate nd.toNat (default:(RowG Int))).length=rs.length:=by have:=hR2.len;omega
   exact Ba C C (vc 22 (.slice ad2 rs.length cp3) rs::(ownR 3 rs2++I)) (by rw [←hwl];exact A5) ⟨ad2,cp3,rs,rs2,by rw [←hwl],hLR,rfl⟩
variable {κ:Ctx}{I:List Item}
theorem nbG_asc(nd:Int)(es:List Pt)(v:Int):(nbG nd es v).Pairwise (λx0 x1:Int=>x0<x1):=by
 unfold nbG
 split
 ·exact List.Pairwise.nil
 ·exact ofL_asc _
theorem inter_common{nd:Int}{es:List Pt}{u v:Int}(h:u≠v):interF (nbG nd es u) (nbG nd es v)=commonG nd es u v:=by
 unfold commonG
 rw [if_neg h]
 refine intLin.uniq ((nbG_asc nd es u).sublist List.filter_sublist) ?_ λx=>?_
 ·unfold meetL;exact (ofL_asc _).sublist List.filter_sublist
 ·rw [mem_meetL];unfold interF;rw [List.mem_filter,decide_eq_true_eq]
theorem Shared_any{a0 b0:Option Addr}{n0 m0 c0 d0:Nat}{xs ys:List Int}(hn:n0=xs.length)(hm0:m0=ys.length)(hl:Sl κ I (.slice a0 n0 c0) xs)(hm:Sl κ I (.slice b0 m0 d0) ys)(hx:xs.Pairwise (λx0 x1:Int=>x0<x1))(hy:ys.Pairwise (λx0 x1:Int=>x0<x1))(hb:xs.length<=100000):eu Tryz.prog κ 289 [.slice a0 n0 c0,.slice b0 m0 d0] I λr J=>∃a c,r = .slice a (interF xs ys).length c/\J=vc 3 (.slice a (interF xs ys).length c) (interF xs ys)::I:=by
 subst hn hm0
 exact Shared_ok hl hm hx hy hb
set_option maxHeartbeats 2000000 in
theorem Counts_ok{nd:Int}{va:Value}{es:List Pt}(hl:Sl κ I va es)(hG:GrOk nd es):eu Tryz.prog κ 244 [.agg #[e7 nd,va]] I (λr J=>∃a c,∃out:List Int,r = .tuple #[e7 (triS nd es / 3),.slice a out.length c]/\J=vc 3 (.slice a out.length c) out::I):=by
 have hrng:=hG.rng
 have hle:=edges_le hG
 have htS:=triS_bd hG
 refine Ce1 Tryz.func244 C C ?_
 refine Aj (Ge1 (Bg (cs:=[_,_]) C C C) λb1=>Ga C (Ga C (Ah (Aj (Gl2 ty48 ?_)))))
 refine G.e (Am call288 C C (Lists_ok (nd:=nd) (Bj hl) hG)) ?_
 rintro _ _ ⟨_,_,⟨ad2,cp3,rs,rs2,rfl,hLR,rfl⟩,rfl,rfl⟩
 refine G.fit (J:=vc 22 (.slice ad2 rs.length cp3) (rs)::e8 b1 [e7 nd,va] 48::(ownR 3 rs2++I)) (Fit.perm (List.Perm.cons _ (perm_fr (A:=ownR 3 rs2) (L:=[e8 b1 [e7 nd,va] 48]) (T:=I)))) ?_
 have hlrl:=hLR.len
 refine Ga C (Ah (Au (Bt mixed (C7 5 (Dr 0 C (Ab fld48_0 C) (Dr 1 C (As ef) ?_))))))
 refine Dr 3 C (Bb C) (Ds1 2 (Se2 C (Cw (α:=Int) (n:=nd.toNat) Ad ef C C C om om dc C) λad4 cp5=>?_))
 refine Dr 4 C (Bb C) (Dz (Ai (Au (Aj (Gf fld48_1 C (Gl ty46 ?_))))))
 refine Gr (Cb (α:=Pt) (xs:=es) Bu C (Bj hl)) (Gm C (Ah (Av (S6 19 18 17 6 5 4 C C C C C C) (A6 (Ca (σ:=Nat×(List Int)×Int) (λs=>([(4,.slice ad2 rs.length cp3),(5,e7 (s.2.2)),(6,.slice ad4 (replicate nd.toNat (default:Int)).length cp5),(17,va),(18,e7 ((es.length:Nat):Int)),(19,e7 ((s.1:Nat):Int))]:Env)) (λs=>vc 3 (.slice ad4 (replicate nd.toNat (default:Int)).length cp5) (s.2.1)::vc 22 (.slice ad2 rs.length cp3) (rs)::e8 b1 [e7 nd,va] 48::(ownR 3 rs2++I)) (λs=>(s.1<=es.length)/\(s.2.2=triK nd es s.1)/\(s.2.1.length=nd.toNat)/\(s.2.1.sum=s.2.2)/\(∀x∈s.2.1,0<=x)) (λs=>es.length - s.1) (0,replicate nd.toNat (default:Int),0) ⟨om,rfl,(by rw [List.length_replicate]),(sumL_rep _),(λx hx=>by rw [List.eq_of_mem_replicate hx];exact Int.le_refl 0)⟩ (Aa C (Aa Cr (Aa C (Aa C (Aa C (Aa Cr Bq)))))) Bv ?_)))))
 rintro ⟨k,out,q⟩ hp
 dsimp only at hp ⊢
 obtain ⟨hk,hq,hol,hos,ho0⟩:=hp
 have htb:=λh:k<=es.length=>triK_bd nd es k h
 have hed:=λh:k<es.length=>hG.at h
 refine Aj (Gr (Bi C C) (Ah (Au (Bd C (λc20=>?_) (λc20=>?_)))))
 ·refine A4 (Ai (Au (A6 (Aj (Gr (A2 (α:=Pt) (xs:=es) Bu ty135 C C (Bj hl) om oo) (Gr (B7 (α:=Pt) (xs:=es) ty135 C (Bj hl) om oo) (Ge1 (A9 ty135 C) λb6=>Ge0 (Cs ty135) ?_)))))))
  refine Ah (Au (Bt mixed (C7 13 (Dr 0 C (Af C) (Dr 1 C (Ab fld135_0 C) (Dr 2 C (As ef) ?_))))))
  refine Dr 3 C (A2 (α:=(RowG Int)) (xs:=rs) B5 ty22 C C Bk om oo) (Dr 4 C (Ct (α:=(RowG Int)) (xs:=rs) (u:= .slice (e_ rs ((e_ es k).u)).a (e_ rs ((e_ es k).u)).xs.length (e_ rs ((e_ es k).u)).c) ty22 C Bk om oo C) (Dr 5 C (Af C) (Dr 6 C (Ab fld135_1 C) (Dr 7 C (As ef) ?_))))
  refine Dr 8 C (A2 (α:=(RowG Int)) (xs:=rs) B5 ty22 C C Bk om oo) (Dr 9 C (Ct (α:=(RowG Int)) (xs:=rs) (u:= .slice (e_ rs ((e_ es k).v)).a (e_ rs ((e_ es k).v)).xs.length (e_ rs ((e_ es k).v)).c) ty22 C Bk om oo C) (Dr 12 C (Af C) (Ds1 10 (Se C (Am call289 C C (Shared_any (hLR.row _ om om).2 (hLR.row _ om om).2 (Ce (hLR.held (I:=I) (i:=((e_ es k).u)) om om) Ay) (Ce (hLR.held (I:=I) (i:=((e_ es k).v)) om om) Ay) (nbG_asc _ _ _) (nbG_asc _ _ _) (by have:=nbG_len nd es (e_ es k).u;omega))) ?_))))
  rintro _ _ ⟨_,_,⟨ad7,cp8,rfl,rfl⟩,rfl,rfl⟩
  refine ⟨A5,?_⟩
  have hint:interF (nbG nd es ((e_ es k).u)) (nbG nd es ((e_ es k).v))=commonG nd es (e_ es k).u (e_ es k).v:=inter_common (by have:=hed om;omega)
  rw [hint]
  refine Dr 11 C (Bz Ad C) (Dz (Ai (Av (S9 34 33 35 4 5 6 17 18 19 C C C C C C C C C) (A6 (Ca (σ:=Nat×(List Int)×Int) (λs=>([(4,.slice ad2 rs.length cp3),(5,e7 (s.2.2)),(6,.slice ad4 (replicate nd.toNat (default:Int)).length cp5),(17,va),(18,e7 ((es.length:Nat):Int)),(19,e7 ((k:Int))),(33,.slice ad7 (commonG nd es (e_ es k).u (e_ es k).v).length cp8),(34,e7 ((((commonG nd es (e_ es k).u (e_ es k).v).length:Nat):Int))),(35,e7 ((s.1:Nat):Int))]:Env)) (λs=>vc 3 (.slice ad4 (replicate nd.toNat (default:Int)).length cp5) (s.2.1)::vc 3 (.slice ad7 (commonG nd es (e_ es k).u (e_ es k).v).length cp8) (commonG nd es (e_ es k).u (e_ es k).v)::e8 b6 [e7 ((e_ es k).u),e7 ((e_ es k).v)] 135::vc 22 (.slice ad2 rs.length cp3) (rs)::e8 b1 [e7 nd,va] 48::(ownR 3 rs2++I)) (λs=>(s.1<=(commonG nd es (e_ es k).u (e_ es k).v).length)/\(s.2.2=triK nd es k+(s.1:Int))/\(s.2.1.length=nd.toNat)/\(s.2.1.sum=s.2.2)/\(∀x∈s.2.1,0<=x)) (λs=>(commonG nd es (e_ es k).u (e_ es k).v).length - s.1) (0,out,q) ⟨om,(by rw [hq];simp),hol,hos,ho0⟩ (Aa C (Aa Cr (Aa C (Aa C (Aa C (Aa C (Aa C (Aa C (Aa Cr Bq))))))))) Bv ?_)))))
  rintro ⟨k2,out2,q2⟩ hp
  dsimp only at hp ⊢
  obtain ⟨hk2,hq2,hol2,hos2,ho02⟩:=hp
  have hcw:k2<(commonG nd es (e_ es k).u (e_ es k).v).length->0<=e_ (commonG nd es (e_ es k).u (e_ es k).v) (k2:Int)/\e_ (commonG nd es (e_ es k).u (e_ es k).v) (k2:Int)<nd:=λh=>common_rng hG (Cq om om)
  have hcl:=commonG_len nd es (e_ es k).u (e_ es k).v
  have hox:k2<(commonG nd es (e_ es k).u (e_ es k).v).length->0<=e_ out2 (e_ (commonG nd es (e_ es k).u (e_ es k).v) (k2:Int))/\e_ out2 (e_ (commonG nd es (e_ es k).u (e_ es k).v) (k2:Int))<=1000000:=λh=>by have h1:=hcw h;have h2:=Cq (xs:=out2) (i:=e_ (commonG nd es (e_ es k).u (e_ es k).v) (k2:Int)) om om;have h3:=mem_le_sum ho02 h2;have h4:=ho02 _ h2;have h5:=htb om;omega
  refine Aj (Gr (Bi C C) (Ah (Au (Bd C (λc36=>?_) (λc36=>?_)))))
  ·refine A4 (Ai (Au (A6 (Aj (Gr (A2 (α:=Int) (xs:=commonG nd es (e_ es k).u (e_ es k).v) Ad ef C C Bk om oo) (Gr (B3 (xs:=commonG nd es (e_ es k).u (e_ es k).v) ef C Bk om oo) (Ga C (Ah (Aj (Gm C (Gm C (Gr (A2 (α:=Int) (xs:=out2) Ad ef C C Bk om oo) (Gr (B3 (xs:=out2) ef C Bk om oo) (Gr (Rad C C) (Gr (A2 (α:=Int) (xs:=out2) Ad ef C C Bk om oo) (Ge0 (Cy (α:=Int) (xs:=out2) (e:=3) (new:=(e_ out2 (e_ (commonG nd es (e_ es k).u (e_ es k).v) (k2:Int)))+1) ef C C C om oo am) ?_))))))))))))))))
   exact Ah (Av (S9 4 5 6 17 18 19 33 34 35 C C C C C C C C C) (A0 (Gm C (Gr (Rad C C) (Ga C (Bf (Ak (Ai (A0 (Gr (Rad C C) (Gm C (Bf (Ch ((k2+1),(List.set out2 (e_ (commonG nd es (e_ es k).u (e_ es k).v) (k2:Int)).toNat ((e_ out2 (e_ (commonG nd es (e_ es k).u (e_ es k).v) (k2:Int)))+1)),(q2+1)) (by dsimp only;exact ⟨om,om,(by rw [List.length_set];exact hol2),(by rw [sumL_set om om,hos2];omega),(λx hx=>by rcases List.mem_or_eq_of_mem_set hx with h|h;(· exact ho02 x h);(· rw [h];have:=hox om;omega))⟩))))))))))))))
  ·exact Bp (Ac (Ac (Aw (Ak (Ai (A0 (Gr (Rad C C) (Gm C (Bf (Ch ((k+1),(out2),(q2)) (by dsimp only;exact ⟨om,(by rw [triK_succ om,hq2,show k2=(commonG nd es (e_ es k).u (e_ es k).v).length by omega]),hol2,hos2,ho02⟩)))))))))))
 ·refine Bp (Ac (Ac (Aw (Ai (Aj (Gm C (Gr (Runs.quo C C om om (by unfold InR;omega)) (Gm C (Ga C (Ga C (Ah (Az ?_))))))))))))
  have hcl3:(replicate nd.toNat (default:Int)).length=out.length:=by rw [List.length_replicate,hol]
  have hqe:q=triS nd es:=by rw [hq,show k=es.length by omega,triK_all]
  exact C4 C C C (vc 3 (.slice ad4 out.length cp5) out::I) (by rw [←hcl3];exact FitW) ⟨ad4,cp5,out,by rw [←hcl3,hqe],rfl⟩
theorem TCount_ok{nd:Int}{va:Value}{es:List Pt}(hl:Sl κ I va es)(hG:GrOk nd es):eu Tryz.prog κ 190 [.agg #[e7 nd,va]] I (λr J=>r = .tuple #[e7 (triS nd es / 3),e7 0]/\I=J):=by
 refine Ce1 Tryz.func190 C C ?_
 refine Aj (Ge1 (Bg (cs:=[_,_]) C C C) λb1=>Ga C (Ga C (Ah (Au (Aj (Gl2 ty48 ?_))))))
 refine Gc0 (Am call83 C C (CheckGen_ok (Bj hl))) ?_
 refine Ga C (Ah (Aj (Gm C (Gr (Bx C C) (Ah (Bd C (λc10=>?_) (λc10=>?_)))))))
 ·exact absurd (checkG_ok.2 hG) c10
 ·refine A4 (Ai (Aj (Gl2 ty48 ?_)))
  refine G.e (Am call244 C C (Counts_ok (nd:=nd) (Bj hl) hG)) ?_
  rintro _ _ ⟨_,_,⟨ad2,cp3,on4,rfl,rfl⟩,rfl,rfl⟩
  exact Gm C (Gr (Ax C C) (Gr (Ax C C) (Ga C (Ga C (Ah (Av (S1 5 C) (Aj (Gm C (Ga C (Ga C (Ah (Az (C4 C C C I Ay ⟨rfl,rfl⟩)))))))))))))
variable {κ:Ctx}{I:List Item}
theorem COrder_ok{nd:Int}{va:Value}{es:List Pt}(hl:Sl κ I va es)(hG:GrOk nd es)(hT:TabRd κ I 0 tzCells):eu Tryz.prog κ 239 [.agg #[e7 nd,va]] I (λr J=>∃a c,r = .tuple #[.slice a (coreO nd es).length c,e7 0]/\J=vc 3 (.slice a (coreO nd es).length c) (coreO nd es)::I):=by
 refine Ce1 Tryz.func239 C C ?_
 refine Aj (Ge1 (Bg (cs:=[_,_]) C C C) λb1=>Ga C (Ga C (Ah (Au (Aj (Gl2 ty48 ?_))))))
 refine Gc0 (Am call83 C C (CheckGen_ok (Bj hl))) ?_
 refine Ga C (Ah (Aj (Gm C (Gr (Bx C C) (Ah (Bd C (λc10=>?_) (λc10=>?_)))))))
 ·exact absurd (checkG_ok.2 hG) c10
 ·refine A4 (Ai (Aj (Gl2 ty48 ?_)))
  refine G.e (Am call175 C C (CPeel_ok (nd:=nd) (Bj hl) hG (Bw hT Ay))) ?_
  rintro _ _ ⟨_,_,⟨ad2,cp3,ad4,cp5,rfl,rfl⟩,rfl,rfl⟩
  exact Gm C (Gr (Ax C C) (Gr (Ax C C) (Ga C (Ga C (Ah (Av (S1 5 C) (Aj (Gm C (Ga C (Ga C (Ah (Az (C4 C C C (vc 3 (.slice ad2 (coreO nd es).length cp3) (coreO nd es)::I) Bv ⟨ad2,cp3,rfl,rfl⟩)))))))))))))
theorem TOrder_ok{nd:Int}{va:Value}{es:List Pt}(hl:Sl κ I va es)(hG:GrOk nd es)(hT:TabRd κ I 0 tzCells):eu Tryz.prog κ 241 [.agg #[e7 nd,va]] I (λr J=>∃a c,r = .tuple #[.slice a (trussO (trisE nd es)).length c,e7 0]/\J=vc 3 (.slice a (trussO (trisE nd es)).length c) (trussO (trisE nd es))::I):=by
 have hle:=edges_le hG
 refine Ce1 Tryz.func241 C C ?_
 refine Aj (Ge1 (Bg (cs:=[_,_]) C C C) λb1=>Ga C (Ga C (Ah (Au (Aj (Gl2 ty48 ?_))))))
 refine Gc0 (Am call83 C C (CheckGen_ok (Bj hl))) ?_
 refine Ga C (Ah (Aj (Gm C (Gr (Bx C C) (Ah (Bd C (λc10=>?_) (λc10=>?_)))))))
 ·exact absurd (checkG_ok.2 hG) c10
 ·refine A4 (Ai (Aj (Gl2 ty48 ?_)))
  refine G.e (Am call222 C C (TPeel_ok (nd:=nd) (Bj hl) hG om (Bw hT Ay))) ?_
  rintro _ _ ⟨_,_,⟨ad2,cp3,ad4,cp5,rfl,rfl⟩,rfl,rfl⟩
  exact Gm C (Gr (Ax C C) (Gr (Ax C C) (Ga C (Ga C (Ah (Av (S1 5 C) (Aj (Gm C (Ga C (Ga C (Ah (Az (C4 C C C (vc 3 (.slice ad2 (trussO (trisE nd es)).length cp3) (trussO (trisE nd es))::I) Bv ⟨ad2,cp3,rfl,rfl⟩)))))))))))))
set_option maxHeartbeats 1000000 in
theorem Proved_ok{nd n0:Int}{fb:Bool}{xa:Option Addr}{xn xc:Nat}{ea:Option Addr}{ec:Nat}{es:List Pt}(hl:Sl κ I (.slice ea es.length ec) es)(hG:GrOk nd es)(hT:TabRd κ I 0 tzCells):eu Tryz.prog κ 179 [.agg #[e7 nd,.slice ea es.length ec],.agg #[.bool fb,e7 n0,e7 0,.slice xa xn xc,e7 0,e7 0,.slice none 0 0,.slice none 0 0,.slice none 0 0,e7 0,.slice none 0 0]] I (λr J=>∃a c a2 c2,r = .agg #[.bool fb,e7 n0,e7 0,.slice xa xn xc,e7 0,e7 0,.slice none 0 0,.slice a2 (coreO nd es).length c2,.slice a (coreN nd es).length c,e7 0,.slice none 0 0]/\J=vc 3 (.slice a (coreN nd es).length c) (coreN nd es)::vc 3 (.slice a2 (coreO nd es).length c2) (coreO nd es)::I):=by
 refine Ce2 Tryz.func179 C C ?_
 refine Aj (Ge1 (Bg (cs:=[_,_]) C C C) λb1=>Ge1 (Bg (cs:=[_,_,_,_,_,_,_,_,_,_,_]) C C C) λb2=>Ge1 (A9 ty90 C) λb3=>Ah (Aj (Gl2 ty48 ?_)))
 refine Gc2 (Am call104 C C (CNumbers_ok (nd:=nd) (Bj hl) (Bw hT Ay))) λad4 cp5=>?_
 refine Gm C (Gr (Ax C C) (Gr (Ax C C) (Gf fld90_7 C (Ge0 (B4 (cs:=[_,_,_,_,_,_,_,_,_,_,_]) (vs:=[_]) (cs':=[_,_,_,_,_,_,_,_,_,_,_]) ty22) ?_))))
 refine Ah (Aj (Gl2 ty48 ?_))
 refine G.e (Am call239 C C (COrder_ok (nd:=nd) (Bj hl) hG (Bw hT Ay))) ?_
 rintro _ _ ⟨_,_,⟨ad6,cp7,rfl,rfl⟩,rfl,rfl⟩
 refine Gm C (Gr (Ax C C) (Gr (Ax C C) (Gf fld90_6 C (Ge0 (B4 (cs:=[_,_,_,_,_,_,_,_,_,_,_]) (vs:=[_]) (cs':=[_,_,_,_,_,_,_,_,_,_,_]) ty22) ?_))))
 refine Ah (Av (S2 4 3 C C) (Aj (Gr (Be (vs:=[_,_,_,_,_,_,_,_,_,_,_]) ty90) ?_)))
 refine Ge0 (B4 (cs:=[_,_,_,_,_,_,_,_,_,_,_]) (vs:=[_,_,_,_,_,_,_,_,_,_,_]) (cs':=[_,_,_,_,_,_,_,_,_,_,_]) ty90) ?_
 exact Ah (Az (Cf C ty90 C mm C (vc 3 (.slice ad4 (coreN nd es).length cp5) (coreN nd es)::vc 3 (.slice ad6 (coreO nd es).length cp7) (coreO nd es)::I) Bv ⟨ad4,cp5,ad6,cp7,rfl,rfl⟩))
structure EdgeR (nd:Int) (es:List Pt) (S:List Int) (y:Int) (fd:Bool) (num:Int) (Nl Ol:List Int):Prop where
 find:FindP nd es (e_ S 0) (e_ S 1) y
 fd:fd=decide (0<=y)
 none:y<0->num=0/\Nl=[]/\Ol=[]
 some:0<=y->num=e_ (trussG nd es) y/\Nl=trussG nd es/\Ol=trussO (trisE nd es)
theorem find_lt{nd u v y:Int}{es:List Pt}(hG:GrOk nd es)(h:FindP nd es u v y):y<(trussG nd es).length:=by
 have hl:(trussG nd es).length=es.length:=by
  unfold trussG
  rw [if_neg (by rw [checkG_ok.2 hG];decide)]
  have h1:=(trussN_bound (tris_ok hG)).1
  rw [h1];exact List.length_map ..
 rcases h with ⟨_,j,rfl,hj,_⟩|⟨rfl,_⟩
 ·omega
 ·omega
end Go.Sl
namespace Go.Sl
end Go.Sl
namespace Go.Sl
open Go.Proofs
set_option maxRecDepth 4000
theorem asc_len64{l:List Int}(h:l.Pairwise (λx0 x1:Int=>x0<x1))(hr:∀x∈l,0<=x/\x<64):l.length<=64:=by
 have hs:∀x∈l,x∈(List.range 64).map fun (i:Nat)=>(i:Int):=λx hx=>by
  have:=hr x hx
  exact List.mem_map.2 ⟨x.toNat,List.mem_range.2 om,by omega⟩
 have:=List.Nodup.length_le_of_subset (h.imp λh=>by omega:l.Nodup) hs
 rwa [List.length_map,List.length_range] at this
section
variable {nd:Int}{es:List Pt}
theorem coreN_lenG(hG:GrOk nd es):((coreN nd es).length:Int)=nd:=by
 have hr:=hG.rng
 have hl:=hG.rows.len
 unfold coreN
 rw [if_neg (by rw [checkG_ok.2 hG];decide),coreL_len];omega
end
end Go.Sl
