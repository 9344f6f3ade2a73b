/- A part of the proofs of statements of this seat: contracts of functions, and the plain laws that they lean on. No conditions. -/
import Derived.Test.YtfkcohmipjhfcaaGreatDoorW17
set_option linter.unusedVariables false
set_option linter.unusedSimpArgs false
set_option linter.unusedSectionVars false
open List (replicate)
namespace Go.Sl
open Go.Proofs
set_option maxRecDepth 4000
theorem best_yes{sup:List Int}{gone:List Bool}{i:Nat}(h:e_ gone i=false)(h2:bestT sup gone i<0\/e_ sup i<e_ sup (bestT sup gone i)):bestT sup gone (i+1)=(i:Int):=by
 conv=>lhs;unfold bestT
 rw [if_pos ⟨h,h2⟩]
theorem best_no{sup:List Int}{gone:List Bool}{i:Nat}(h:e_ gone i=true\/(¬bestT sup gone i<0/\¬e_ sup i<e_ sup (bestT sup gone i))):bestT sup gone (i+1)=bestT sup gone i:=by
 conv=>lhs;unfold bestT
 rw [if_neg]
 rintro ⟨h1,h2⟩
 rcases h with h|h
 ·rw [h] at h1;cases h1
 ·exact h2.elim h.1 h.2
theorem rows_atG{rs:List (RowG Pt)}{tri:List (List Pt)}(h:rs.map RowG.xs=tri){i:Int}(h0:0<=i)(h1:i<rs.length):(e_ rs i).xs=e_ tri i:=by
 subst h
 rw [at_eq h0 h1,at_eq h0 (by rw [List.length_map];exact h1),List.getElem_map]
theorem low_yes{gone:List Bool}{sup:List Int}{p:Pt}(h1:e_ gone p.u=false)(h2:e_ gone p.v=false):lowT gone sup p=(sup.set p.u.toNat (e_ sup p.u - 1)).set p.v.toNat (e_ (sup.set p.u.toNat (e_ sup p.u - 1)) p.v - 1):=by
 unfold lowT;rw [if_pos ⟨h1,h2⟩]
theorem low_no{gone:List Bool}{sup:List Int}{p:Pt}(h:e_ gone p.u=true\/e_ gone p.v=true):lowT gone sup p=sup:=by
 unfold lowT;rw [if_neg]
 rintro ⟨h1,h2⟩
 rcases h with h|h
 ·rw [h] at h1;cases h1
 ·rw [h] at h2;cases h2
set_option maxHeartbeats 2000000 in
theorem TPeel_ok{κ:Ctx}{I:List Item}{nd:Int}{va:Value}{es:List Pt}(hl:Sl κ I va es)(hG:GrOk nd es)(hb:es.length<=1000000)(hT:TabRd κ I 0 tzCells):eu Tryz.prog κ 222 [.agg #[e7 nd,va]] I (λr J=>∃a c a' c',r = .tuple #[.slice a (trussO (trisE nd es)).length c,.slice a' (trussN (trisE nd es)).length c']/\J=vc 3 (.slice a (trussO (trisE nd es)).length c) (trussO (trisE nd es))::vc 3 (.slice a' (trussN (trisE nd es)).length c') (trussN (trisE nd es))::I):=by
 have hrng:=hG.rng
 have hTok:=tris_ok hG
 have htes:(trisE nd es).length=es.length:=List.length_map ..
 refine Ce1 Tryz.func222 C C ?_
 refine Aj (Ge1 (Bg (cs:=[_,_]) C C C) λb1=>Ga C (Ga C (Ah (Aj (Gl2 ty48 ?_)))))
 refine G.e (Am call276 C C (Triangles_ok (nd:=nd) (Bj hl) hG om (Bw hT Ay))) ?_
 rintro _ _ ⟨_,_,⟨ad2,cp3,rs4,rfl,hrs4,rfl⟩,rfl,rfl⟩
 have htl:rs4.length=(trisE nd es).length:=by rw [←hrs4,List.length_map]
 refine G.fit (J:=vc 65 (.slice ad2 rs4.length cp3) (rs4)::e8 b1 [e7 nd,va] 48::(rgI rs4++I)) (Fit.perm (List.Perm.cons _ (perm_fr (A:=rgI rs4) (L:=[e8 b1 [e7 nd,va] 48]) (T:=I)))) ?_
 refine Ga C (Ah (Aj (Gm C (Gr (Bz Dy C) (Ga C (Ah (Aj (Gm C (Ge2 (Cw (α:=Int) (n:=rs4.length) Ad ef C C C om om dc C) λad5 cp6=>?_)))))))))
 refine Ga C (Ah (Au (Aj (Gm C (Gr (Bz Dy C) (Gm C (Ah (Av (S7 23 22 21 6 5 4 2 C C C C C C C) (A6 (Ca (σ:=Nat×(List Int)) (λs=>([(2,.slice none 0 0),(4,.slice ad2 rs4.length cp3),(5,e7 ((rs4.length:Nat):Int)),(6,.slice ad5 (replicate rs4.length (default:Int)).length cp6),(21,.slice ad2 rs4.length cp3),(22,e7 ((rs4.length:Nat):Int)),(23,e7 ((s.1:Nat):Int))]:Env)) (λs=>vc 3 (.slice ad5 (replicate rs4.length (default:Int)).length cp6) (s.2)::vc 65 (.slice ad2 rs4.length cp3) (rs4)::e8 b1 [e7 nd,va] 48::(rgI rs4++I)) (λs=>(s.1<=rs4.length)/\(s.2.length=rs4.length)/\(∀i:Nat,i<s.1->e_ s.2 i=(((e_ rs4 i).xs.length:Nat):Int))) (λs=>rs4.length - s.1) (0,replicate rs4.length (default:Int)) ⟨om,List.length_replicate,(λi h=>by omega)⟩ (Aa C (Aa C (Aa C (Aa C (Aa C (Aa C (Aa (Dl C (by first|omega|rfl|((try dsimp only);first|exact best_yes (by simpa using g50) (by first|exact .inl g53|exact .inr c64)|exact (best_yes (by simpa using g50) (by first|exact .inl g53|exact .inr c64)).symm|exact best_no (by first|(left;simpa using g50)|exact .inr ⟨g53,c64⟩)|exact (best_no (by first|(left;simpa using g50)|exact .inr ⟨g53,c64⟩)).symm))) Bq))))))) A5 ?_))))))))))
 rintro ⟨k,sup⟩ hp
 dsimp only at hp ⊢
 obtain ⟨hk,hsl,hsv⟩:=hp
 refine Aj (Gr (Bi C C) (Ah (Au (Bd C (λc24=>?_) (λc24=>?_)))))
 ·refine A4 (Ai (Au (A6 (Aj (Gm C (Gr (A2 (α:=(RowG Pt)) (xs:=rs4) Dy ty65 C C Bk om oo) (Gr (Ct (α:=(RowG Pt)) (xs:=rs4) (u:= .slice (e_ rs4 k).a (e_ rs4 k).xs.length (e_ rs4 k).c) ty65 C Bk om oo C) (Ga C (Ga C (Ah (A0 (Gm C (Gm C (Gm C (Gr (Bz Dj C) (Gr (A2 (α:=Int) (xs:=sup) Ad ef C C Bk om oo) (Ge0 (Cy (α:=Int) (xs:=sup) (e:=3) (new:=(((e_ rs4 k).xs.length:Nat):Int)) ef C C C om oo am) ?_)))))))))))))))))
  exact Bf (Ak (Ai (Av (S7 2 4 5 6 21 22 23 C C C C C C C) (A0 (Gr (Rad C C) (Gm C (Bf (Ch ((k+1),(List.set sup ((k:Int)).toNat ((((e_ rs4 k).xs.length:Nat):Int)))) (by dsimp only;exact ⟨om,(by rw [List.length_set];exact hsl),(λi h=>by rw [Dh _ _ _ _ om om om];by_cases e:i=k;(· subst e;rw [if_pos rfl]);(· rw [if_neg om];exact hsv i om))⟩) (hL:=(Aa C (Aa C (Aa C (Aa C (Aa C (Aa C (Aa (Dl C (by first|omega|rfl|((try dsimp only);first|exact best_yes (by simpa using g50) (by first|exact .inl g53|exact .inr c64)|exact (best_yes (by simpa using g50) (by first|exact .inl g53|exact .inr c64)).symm|exact best_no (by first|(left;simpa using g50)|exact .inr ⟨g53,c64⟩)|exact (best_no (by first|(left;simpa using g50)|exact .inr ⟨g53,c64⟩)).symm))) Bq))))))))))))))))
 ·refine Bp (Ac (Ac (Aw (Ai (Aj (Gm C ?_))))))
  have hsup:sup=(startT (trisE nd es)).sup:=by refine ext_at (by rw [hsl,htl];exact (List.length_map ..).symm) (λi hi=>?_);rw [hsv i om,rows_atG hrs4 om om];show _=e_ ((trisE nd es).map λl=>(l.length:Int)) (i:Int);rw [Db _ _ (show i<(trisE nd es).length by omega),Db _ _ (by rw [List.length_map];omega),List.getElem_map]
  refine Ge2 (Cw (α:=Bool) (n:=rs4.length) Cx ty4 C C C om om dc C) λad7 cp8=>?_
  refine Ga C (Ah (Aj (Gm C (Ge2 (Cw (α:=Int) (n:=rs4.length) Ad ef C C C om om dc C) λad9 cp10=>?_))))
  refine Ga C (Ah (Av (S6 3 9 2 4 5 6 C C C C C C) (Aj (Ga C (Ah (Au (Aj (Gm C (Gm C (Ah (A6 (Ca (σ:=Nat×TrS×(Option Addr)×Nat) (λs=>([(2,.slice s.2.2.1 s.2.1.ord.length s.2.2.2),(3,.slice ad9 (replicate rs4.length (default:Int)).length cp10),(4,.slice ad2 rs4.length cp3),(5,e7 ((rs4.length:Nat):Int)),(6,.slice ad5 (replicate rs4.length (default:Int)).length cp6),(9,.slice ad7 (replicate rs4.length (default:Bool)).length cp8),(10,e7 (s.2.1.k)),(38,e7 ((rs4.length:Nat):Int)),(39,e7 ((s.1:Nat):Int))]:Env)) (λs=>vc 3 (.slice s.2.2.1 s.2.1.ord.length s.2.2.2) (s.2.1.ord)::vc 3 (.slice ad9 (replicate rs4.length (default:Int)).length cp10) (s.2.1.num)::vc 4 (.slice ad7 (replicate rs4.length (default:Bool)).length cp8) (s.2.1.gone)::vc 3 (.slice ad5 (replicate rs4.length (default:Int)).length cp6) (s.2.1.sup)::vc 65 (.slice ad2 rs4.length cp3) (rs4)::e8 b1 [e7 nd,va] 48::(rgI rs4++I)) (λs=>(s.1<=rs4.length)/\(s.2.1=runTr (trisE nd es) s.1)/\(TrOk (nd.toNat - 1) (trisE nd es).length s.1 s.2.1)) (λs=>rs4.length - s.1) (0,(startT (trisE nd es)),none,0) ⟨om,rfl,(TrOk.start hTok)⟩ (Aa (Da C (by first|rfl|simp)) (Aa C (Aa C (Aa C (Aa C (Aa C (Aa (Dl C (by first|omega|rfl|((try dsimp only);first|exact best_yes (by simpa using g50) (by first|exact .inl g53|exact .inr c64)|exact (best_yes (by simpa using g50) (by first|exact .inl g53|exact .inr c64)).symm|exact best_no (by first|(left;simpa using g50)|exact .inr ⟨g53,c64⟩)|exact (best_no (by first|(left;simpa using g50)|exact .inr ⟨g53,c64⟩)).symm))) (Aa C (Aa (Dl C (by first|omega|rfl|((try dsimp only);first|exact best_yes (by simpa using g50) (by first|exact .inl g53|exact .inr c64)|exact (best_yes (by simpa using g50) (by first|exact .inl g53|exact .inr c64)).symm|exact best_no (by first|(left;simpa using g50)|exact .inr ⟨g53,c64⟩)|exact (best_no (by first|(left;simpa using g50)|exact .inr ⟨g53,c64⟩)).symm))) Bq))))))))) (by rw [←hsup];exact A8 (B9 (α:=Int) _ _) (by rw [htl];exact Bv)) ?_))))))))))))
  rintro ⟨j,tr,ao,co⟩ hp
  dsimp only at hp ⊢
  obtain ⟨hj,htr,hok⟩:=hp
  have hsn:=hok.slen
  have hgn:=hok.glen
  have hnn:=hok.nlen
  have hon:=hok.olen
  have hkb:=hok.k
  have hmj:2*(((nd.toNat - 1:Nat)):Int)*(j:Int)<=126*(j:Int):=Int.mul_le_mul_of_nonneg_right om om
  refine Aj (Gr (Bi C C) (Ah (Au (Bd C (λc40=>?_) (λc40=>?_)))))
  ·refine A4 (Ai (Au (A6 (Aj (Ga C (Ah (Au (Aj (Gm C (Gm C (Ah (A6 (Ca (σ:=Nat) (λs=>([(2,.slice ao tr.ord.length co),(3,.slice ad9 (replicate rs4.length (default:Int)).length cp10),(4,.slice ad2 rs4.length cp3),(5,e7 ((rs4.length:Nat):Int)),(6,.slice ad5 (replicate rs4.length (default:Int)).length cp6),(9,.slice ad7 (replicate rs4.length (default:Bool)).length cp8),(10,e7 (tr.k)),(11,e7 (bestT tr.sup tr.gone s)),(38,e7 ((rs4.length:Nat):Int)),(39,e7 ((j:Int))),(41,e7 ((rs4.length:Nat):Int)),(42,e7 ((s:Nat):Int))]:Env)) (λs=>vc 3 (.slice ao tr.ord.length co) (tr.ord)::vc 3 (.slice ad9 (replicate rs4.length (default:Int)).length cp10) (tr.num)::vc 4 (.slice ad7 (replicate rs4.length (default:Bool)).length cp8) (tr.gone)::vc 3 (.slice ad5 (replicate rs4.length (default:Int)).length cp6) (tr.sup)::vc 65 (.slice ad2 rs4.length cp3) (rs4)::e8 b1 [e7 nd,va] 48::(rgI rs4++I)) (λs=>(s<=rs4.length)) (λs=>rs4.length - s) 0 (show ((0:Nat)<=rs4.length) from om) (Aa C (Aa C (Aa C (Aa C (Aa C (Aa C (Aa C (Aa (Dl C (by first|omega|rfl|((try dsimp only);first|exact best_yes (by simpa using g50) (by first|exact .inl g53|exact .inr c64)|exact (best_yes (by simpa using g50) (by first|exact .inl g53|exact .inr c64)).symm|exact best_no (by first|(left;simpa using g50)|exact .inr ⟨g53,c64⟩)|exact (best_no (by first|(left;simpa using g50)|exact .inr ⟨g53,c64⟩)).symm))) (Aa C (Aa C (Aa C (Aa (Dl C (by first|omega|rfl|((try dsimp only);first|exact best_yes (by simpa using g50) (by first|exact .inl g53|exact .inr c64)|exact (best_yes (by simpa using g50) (by first|exact .inl g53|exact .inr c64)).symm|exact best_no (by first|(left;simpa using g50)|exact .inr ⟨g53,c64⟩)|exact (best_no (by first|(left;simpa using g50)|exact .inr ⟨g53,c64⟩)).symm))) Bq)))))))))))) A5 ?_)))))))))))))
   rintro i2 hp
   have hi2:=hp
   have hbl:=bestT_lt tr.sup tr.gone i2
   refine Aj (Gr (Bi C C) (Ah (Au (Bd C (λc43=>?_) (λc43=>?_)))))
   ·refine A4 (Ai (Au (A6 (Aj (Gm C (Ga C (Ah (Av (S13 12 2 3 4 5 6 9 10 11 38 39 41 42 C C C C C C C C C C C C C) (Au (Bt mixed (C7 20 (Dr 0 C (Af C) (Dr 1 C (Af C) (Dr 2 C (A2 (α:=Bool) (xs:=tr.gone) Cx ty4 C C Bk om oo) (Dr 3 C (Runs.getB (xs:=tr.gone) ty4 C Bk om oo) (Dr 4 C (B8 C) (Dr 5 C (Af C) (D.splitb (d:=50) C (λg50=>?_) (λg50=>?_)))))))))))))))))))
    ·refine Dro 6 C (Af C) (Dro 7 C (Bi C C) (Dro 8 C (Af C) (D4 (d:=53) C (λg53=>?_) (λg53=>?_))))
     ·exact Dpo 9 C (Dpo 10 C (Dpo 11 C (Dpo 12 C (Dpo 13 C (Dpo 14 C (Dpo 15 C (Dpo 16 C (Dpo 17 C (Dro 18 C (Ap C C) (Dr 19 C (Ap C C) (Dz (Ai (Av (S14 64 12 2 3 4 5 6 9 10 11 38 39 41 42 C C C C C C C C C C C C C C) (Do C (A0 (Gm C (Ga C (Bf (Ak (Ai (Av (S12 11 2 3 4 5 6 9 10 38 39 41 42 C C C C C C C C C C C C) (A0 (Gr (Rad C C) (Gm C (Bf (Ch ((i2+1)) om (hL:=(Aa C (Aa C (Aa C (Aa C (Aa C (Aa C (Aa C (Aa (Dl C (by first|omega|rfl|((try dsimp only);first|exact best_yes (by simpa using g50) (by first|exact .inl g53|exact .inr c64)|exact (best_yes (by simpa using g50) (by first|exact .inl g53|exact .inr c64)).symm|exact best_no (by first|(left;simpa using g50)|exact .inr ⟨g53,c64⟩)|exact (best_no (by first|(left;simpa using g50)|exact .inr ⟨g53,c64⟩)).symm))) (Aa C (Aa C (Aa C (Aa (Dl C (by first|omega|rfl|((try dsimp only);first|exact best_yes (by simpa using g50) (by first|exact .inl g53|exact .inr c64)|exact (best_yes (by simpa using g50) (by first|exact .inl g53|exact .inr c64)).symm|exact best_no (by first|(left;simpa using g50)|exact .inr ⟨g53,c64⟩)|exact (best_no (by first|(left;simpa using g50)|exact .inr ⟨g53,c64⟩)).symm))) Bq)))))))))))))))))))))))))))))))))))))))
     ·refine Dro 9 C (Af C) (Dro 10 C (Af C) (Dro 11 C (A2 (α:=Int) (xs:=tr.sup) Ad ef C C Bk om oo) (Dro 12 C (B3 (xs:=tr.sup) ef C Bk om oo) (Dro 13 C (Af C) (Dro 14 C (Af C) (Dro 15 C (A2 (α:=Int) (xs:=tr.sup) Ad ef C C Bk om oo) (Dro 16 C (B3 (xs:=tr.sup) ef C Bk om oo) (Dro 17 C (Bi C C) (Dro 18 C (Al C C) (Dr 19 C (Ap C C) (Dz (Ai (Av (S14 64 12 2 3 4 5 6 9 10 11 38 39 41 42 C C C C C C C C C C C C C C) (Bd C (λc64=>?_) (λc64=>?_)))))))))))))))
      ·exact A0 (Gm C (Ga C (Bf (Ak (Ai (Av (S12 11 2 3 4 5 6 9 10 38 39 41 42 C C C C C C C C C C C C) (A0 (Gr (Rad C C) (Gm C (Bf (Ch ((i2+1)) om (hL:=(Aa C (Aa C (Aa C (Aa C (Aa C (Aa C (Aa C (Aa (Dl C (by first|omega|rfl|((try dsimp only);first|exact best_yes (by simpa using g50) (by first|exact .inl g53|exact .inr c64)|exact (best_yes (by simpa using g50) (by first|exact .inl g53|exact .inr c64)).symm|exact best_no (by first|(left;simpa using g50)|exact .inr ⟨g53,c64⟩)|exact (best_no (by first|(left;simpa using g50)|exact .inr ⟨g53,c64⟩)).symm))) (Aa C (Aa C (Aa C (Aa (Dl C (by first|omega|rfl|((try dsimp only);first|exact best_yes (by simpa using g50) (by first|exact .inl g53|exact .inr c64)|exact (best_yes (by simpa using g50) (by first|exact .inl g53|exact .inr c64)).symm|exact best_no (by first|(left;simpa using g50)|exact .inr ⟨g53,c64⟩)|exact (best_no (by first|(left;simpa using g50)|exact .inr ⟨g53,c64⟩)).symm))) Bq))))))))))))))))))))))))
      ·exact A4 (Ak (Ai (Av (S12 2 3 4 5 6 9 10 11 38 39 41 42 C C C C C C C C C C C C) (A0 (Gr (Rad C C) (Gm C (Bf (Ch ((i2+1)) om (hL:=(Aa C (Aa C (Aa C (Aa C (Aa C (Aa C (Aa C (Aa (Dl C (by first|omega|rfl|((try dsimp only);first|exact best_yes (by simpa using g50) (by first|exact .inl g53|exact .inr c64)|exact (best_yes (by simpa using g50) (by first|exact .inl g53|exact .inr c64)).symm|exact best_no (by first|(left;simpa using g50)|exact .inr ⟨g53,c64⟩)|exact (best_no (by first|(left;simpa using g50)|exact .inr ⟨g53,c64⟩)).symm))) (Aa C (Aa C (Aa C (Aa (Dl C (by first|omega|rfl|((try dsimp only);first|exact best_yes (by simpa using g50) (by first|exact .inl g53|exact .inr c64)|exact (best_yes (by simpa using g50) (by first|exact .inl g53|exact .inr c64)).symm|exact best_no (by first|(left;simpa using g50)|exact .inr ⟨g53,c64⟩)|exact (best_no (by first|(left;simpa using g50)|exact .inr ⟨g53,c64⟩)).symm))) Bq)))))))))))))))))))))
    ·exact Dpo 6 C (Dpo 7 C (Dpo 8 C (Dpu 9 C (Dpu 10 C (Dpu 11 C (Dpu 12 C (Dpu 13 C (Dpu 14 C (Dpu 15 C (Dpu 16 C (Dpu 17 C (Dpo 18 C (Dr 19 C (Al C C) (Dz (Ai (Av (S14 64 12 2 3 4 5 6 9 10 11 38 39 41 42 C C C C C C C C C C C C C C) (Eo C (A4 (Ak (Ai (Av (S12 2 3 4 5 6 9 10 11 38 39 41 42 C C C C C C C C C C C C) (A0 (Gr (Rad C C) (Gm C (Bf (Ch ((i2+1)) om (hL:=(Aa C (Aa C (Aa C (Aa C (Aa C (Aa C (Aa C (Aa (Dl C (by first|omega|rfl|((try dsimp only);first|exact best_yes (by simpa using g50) (by first|exact .inl g53|exact .inr c64)|exact (best_yes (by simpa using g50) (by first|exact .inl g53|exact .inr c64)).symm|exact best_no (by first|(left;simpa using g50)|exact .inr ⟨g53,c64⟩)|exact (best_no (by first|(left;simpa using g50)|exact .inr ⟨g53,c64⟩)).symm))) (Aa C (Aa C (Aa C (Aa (Dl C (by first|omega|rfl|((try dsimp only);first|exact best_yes (by simpa using g50) (by first|exact .inl g53|exact .inr c64)|exact (best_yes (by simpa using g50) (by first|exact .inl g53|exact .inr c64)).symm|exact best_no (by first|(left;simpa using g50)|exact .inr ⟨g53,c64⟩)|exact (best_no (by first|(left;simpa using g50)|exact .inr ⟨g53,c64⟩)).symm))) Bq)))))))))))))))))))))))))))))))))))))))
   ·refine Bp (Ac (Ac (Aw (Ai (Aj (Gm C ?_))))))
    obtain ⟨b,hbI⟩:∃b,bestT tr.sup tr.gone i2=b:=⟨_,rfl⟩
    have hbE:bestT tr.sup tr.gone (trisE nd es).length=b:=by rw [←hbI,show i2=(trisE nd es).length by omega]
    have hb0:=hok.best om
    rw [hbE] at hb0
    rw [hbI]
    have hsb:=hok.sup _ (Cq (xs:=tr.sup) (i:=b) hb0.1 om)
    refine Gm C (Gm C (Gr (A2 (α:=Int) (xs:=tr.sup) Ad ef C C Bk om oo) (Gr (B3 (xs:=tr.sup) ef C Bk om oo) (Gr (D7 C C) ?_))))
    have hmx:(if tr.k<(e_ tr.sup b) then (e_ tr.sup b) else tr.k)=(max tr.k (e_ tr.sup b)):=by split<;>omega
    rw [hmx]
    refine Ga C (Ah (Av (S10 10 2 3 4 5 6 9 11 38 39 C C C C C C C C C C) (Aj (Gm C (Gm C (Gm C (Gm C (Gm C (Gr (A2 (α:=Int) (xs:=tr.num) Ad ef C C Bk om oo) (Ge0 (Cy (α:=Int) (xs:=tr.num) (e:=3) (new:=(max tr.k (e_ tr.sup b))) ef C C C om oo am) ?_))))))))))
    refine Gr (A2 (α:=Bool) (xs:=tr.gone) Cx ty4 C C Bk om oo) (Ge0 (Cy (α:=Bool) (xs:=tr.gone) (e:=4) (new:=true) ty4 C C C om oo am) ?_)
    refine Ah (Av (S10 10 2 3 4 5 6 9 11 38 39 C C C C C C C C C C) (Aj (Gm C (Gm C (Ge1 (Cj (α:=Int) (cs:=[_]) (xs:=[b]) Ad ef C C dc dc C C C C) λad11=>?_)))))
    refine Ge2 (Cn (α:=Int) (e:=3) (xs:=tr.ord) (ys:=([b]:List Int)) Ad ef C C C mm Bk lcn dc C (λ_ _=>am)) λad12 cp13=>?_
    refine Ga C (Ah (Av (S10 2 10 3 4 5 6 9 11 38 39 C C C C C C C C C C) (Aj (Gm C (Gm C (Gr (A2 (α:=(RowG Pt)) (xs:=rs4) Dy ty65 C C Bk om oo) (Gr (Ct (α:=(RowG Pt)) (xs:=rs4) (u:= .slice (e_ rs4 b).a (e_ rs4 b).xs.length (e_ rs4 b).c) ty65 C Bk om oo C) (Gr (Bz Dj C) (Gm C (Ah (Av (S12 89 88 87 2 10 3 4 5 6 9 38 39 C C C C C C C C C C C C) (A6 (Ca (σ:=Nat×(List Int)) (λs=>([(2,.slice ad12 (tr.ord++([b]:List Int)).length cp13),(3,.slice ad9 (replicate rs4.length (default:Int)).length cp10),(4,.slice ad2 rs4.length cp3),(5,e7 ((rs4.length:Nat):Int)),(6,.slice ad5 (replicate rs4.length (default:Int)).length cp6),(9,.slice ad7 (replicate rs4.length (default:Bool)).length cp8),(10,e7 ((max tr.k (e_ tr.sup b)))),(38,e7 ((rs4.length:Nat):Int)),(39,e7 ((j:Nat):Int)),(87,.slice (e_ rs4 b).a (e_ rs4 b).xs.length (e_ rs4 b).c),(88,e7 ((((e_ rs4 b).xs.length:Nat):Int))),(89,e7 ((s.1:Nat):Int))]:Env)) (λs=>vc 3 (.slice ad11 1 1) (([b]:List Int))::vc 3 (.slice ad12 (tr.ord++([b]:List Int)).length cp13) (tr.ord++([b]:List Int))::vc 3 (.slice ad9 (replicate rs4.length (default:Int)).length cp10) (List.set tr.num (b).toNat ((max tr.k (e_ tr.sup b))))::vc 4 (.slice ad7 (replicate rs4.length (default:Bool)).length cp8) (List.set tr.gone (b).toNat (true))::vc 3 (.slice ad5 (replicate rs4.length (default:Int)).length cp6) (s.2)::vc 65 (.slice ad2 rs4.length cp3) (rs4)::e8 b1 [e7 nd,va] 48::(rgI rs4++I)) (λs=>(s.1<=(e_ rs4 b).xs.length)/\(s.2=((e_ rs4 b).xs.take s.1).foldl (lowT (List.set tr.gone (b).toNat (true))) tr.sup)/\(s.2.length=(trisE nd es).length)/\(∀x∈s.2, -(126*((j:Nat):Int)) - 2*((s.1:Nat):Int)<=x/\x<=64)) (λs=>(e_ rs4 b).xs.length - s.1) (0,tr.sup) ⟨om,rfl,hsn,(λx hx=>by have:=hok.sup x hx;omega)⟩ (Aa C (Aa C (Aa C (Aa C (Aa C (Aa C (Aa C (Aa C (Aa C (Aa C (Aa C (Aa (Dl C (by first|omega|rfl|((try dsimp only);first|exact best_yes (by simpa using g50) (by first|exact .inl g53|exact .inr c64)|exact (best_yes (by simpa using g50) (by first|exact .inl g53|exact .inr c64)).symm|exact best_no (by first|(left;simpa using g50)|exact .inr ⟨g53,c64⟩)|exact (best_no (by first|(left;simpa using g50)|exact .inr ⟨g53,c64⟩)).symm))) Bq)))))))))))) A5 ?_)))))))))))))
    rintro ⟨q,sup1⟩ hp
    dsimp only at hp ⊢
    obtain ⟨hq,hs1,hs1l,hsr⟩:=hp
    have hrb:(e_ rs4 b).xs∈(trisE nd es):=by rw [rows_atG hrs4 hb0.1 om];exact Cq hb0.1 hb0.2.1
    have hrl:=hTok.len _ hrb
    have hgl2:(List.set tr.gone (b).toNat (true)).length=(trisE nd es).length:=by rw [List.length_set];exact hgn
    have hpr:q<(e_ rs4 b).xs.length->0<=(e_ (e_ rs4 b).xs (q:Int)).u/\(e_ (e_ rs4 b).xs (q:Int)).u<(trisE nd es).length/\0<=(e_ (e_ rs4 b).xs (q:Int)).v/\(e_ (e_ rs4 b).xs (q:Int)).v<(trisE nd es).length:=λh=>hTok.rng _ hrb _ (Cq om om)
    refine Aj (Gr (Bi C C) (Ah (Au (Bd C (λc90=>?_) (λc90=>?_)))))
    ·refine A4 (Ai (Au (A6 (Aj (Gr (A2 (α:=Pt) (xs:=(e_ rs4 b).xs) Dj ty64 C C (Fo (by repeat (first|exact rgI_mem (rs:=rs4) (i:=b) om om|apply List.mem_cons_of_mem))) om oo) (Gr (B7 (α:=Pt) (xs:=(e_ rs4 b).xs) ty64 C (Fo (by repeat (first|exact rgI_mem (rs:=rs4) (i:=b) om om|apply List.mem_cons_of_mem))) om oo) ?_))))))
     have hpq:=hpr om
     have hqu:=hsr _ (Cq (xs:=sup1) (i:=(e_ (e_ rs4 b).xs (q:Int)).u) om om)
     refine Ge1 (A9 ty64 C) λb14=>Ge0 (Cs ty64) ?_
     refine Ah (Av (S13 14 2 3 4 5 6 9 10 38 39 87 88 89 C C C C C C C C C C C C C) (Aj (Gm C (Gr (Cv Cm ty2 C C om om) (Gl ef ?_)))))
     refine Gr (A2 (α:=Bool) (xs:=List.set tr.gone (b).toNat (true)) Cx ty4 C C Bk om oo) (Gr (Runs.getB (xs:=List.set tr.gone (b).toNat (true)) ty4 C Bk om oo) (Gr (B8 C) (Gm C (Ck (d:=99) C (λg99=>?_) (λg99=>?_)))))
     ·refine e9 (Af C) (e9 (Cv Cm ty2 C C om om) (e9 (As ef) ?_))
      refine e9 (A2 (α:=Bool) (xs:=List.set tr.gone (b).toNat (true)) Cx ty4 C C Bk om oo) (e9 (Runs.getB (xs:=List.set tr.gone (b).toNat (true)) ty4 C Bk om oo) (e9 (B8 C) (Gr (Ap C C) (Ah (Av (S14 106 14 2 3 4 5 6 9 10 38 39 87 88 89 C C C C C C C C C C C C C C) (Ez C (λc106=>?_) (λc106=>?_)))))))
      ·refine Aj (Gm C (Gr (Cv Cm ty2 C C om om) (Gl ef ?_)))
       refine Gr (A2 (α:=Int) (xs:=sup1) Ad ef C C Bk om oo) (Gr (B3 (xs:=sup1) ef C Bk om oo) (Gr (Rsu C C) (Gr (A2 (α:=Int) (xs:=sup1) Ad ef C C Bk om oo) (Ge0 (Cy (α:=Int) (xs:=sup1) (e:=3) (new:=(e_ sup1 ((e_ ((e_ rs4 b).xs) (q:Int)).u)) - 1) ef C C C om oo am) ?_))))
       have hqv : -(126*(j:Int)) - 2*(q:Int) - 1<=e_ (List.set sup1 ((e_ ((e_ rs4 b).xs) (q:Int)).u).toNat ((e_ sup1 ((e_ ((e_ rs4 b).xs) (q:Int)).u)) - 1)) (e_ (e_ rs4 b).xs (q:Int)).v/\e_ (List.set sup1 ((e_ ((e_ rs4 b).xs) (q:Int)).u).toNat ((e_ sup1 ((e_ ((e_ rs4 b).xs) (q:Int)).u)) - 1)) (e_ (e_ rs4 b).xs (q:Int)).v<=64:=by rw [Dh _ _ _ _ om om om];have:=hsr _ (Cq (xs:=sup1) (i:=(e_ (e_ rs4 b).xs (q:Int)).v) om om);split<;>omega
       refine Ah (Av (S13 14 2 3 4 5 6 9 10 38 39 87 88 89 C C C C C C C C C C C C C) (A0 (Gm C (Gr (Cv Cm ty2 C C om om) (Gl ef ?_)))))
       refine Gr (A2 (α:=Int) (xs:=List.set sup1 ((e_ ((e_ rs4 b).xs) (q:Int)).u).toNat ((e_ sup1 ((e_ ((e_ rs4 b).xs) (q:Int)).u)) - 1)) Ad ef C C Bk om oo) (Gr (B3 (xs:=List.set sup1 ((e_ ((e_ rs4 b).xs) (q:Int)).u).toNat ((e_ sup1 ((e_ ((e_ rs4 b).xs) (q:Int)).u)) - 1)) ef C Bk om oo) (Gr (Rsu C C) (Gr (A2 (α:=Int) (xs:=List.set sup1 ((e_ ((e_ rs4 b).xs) (q:Int)).u).toNat ((e_ sup1 ((e_ ((e_ rs4 b).xs) (q:Int)).u)) - 1)) Ad ef C C Bk om oo) (Ge0 (Cy (α:=Int) (xs:=List.set sup1 ((e_ ((e_ rs4 b).xs) (q:Int)).u).toNat ((e_ sup1 ((e_ ((e_ rs4 b).xs) (q:Int)).u)) - 1)) (e:=3) (new:=(e_ (List.set sup1 ((e_ ((e_ rs4 b).xs) (q:Int)).u).toNat ((e_ sup1 ((e_ ((e_ rs4 b).xs) (q:Int)).u)) - 1)) ((e_ ((e_ rs4 b).xs) (q:Int)).v)) - 1) ef C C C om oo am) ?_))))
       refine Bf (Ak (Ai (Av (S12 2 3 4 5 6 9 10 38 39 87 88 89 C C C C C C C C C C C C) (A0 (Gr (Rad C C) (Gm C (Bf ?_)))))))
       have hlow:((e_ rs4 b).xs.take (q+1)).foldl (lowT (List.set tr.gone (b).toNat (true))) tr.sup=lowT (List.set tr.gone (b).toNat (true)) sup1 (e_ (e_ rs4 b).xs (q:Int)):=by rw [Di _ q om,List.foldl_append,←hs1];rfl
       have hlr:=lowT_rng (gone:=(List.set tr.gone (b).toNat (true))) (p:=(e_ (e_ rs4 b).xs (q:Int))) (by have:=hpr om;omega) hsr
       have hll:=lowT_len (List.set tr.gone (b).toNat (true)) sup1 (e_ (e_ rs4 b).xs (q:Int))
       exact Ch ((q+1),(List.set (List.set sup1 ((e_ ((e_ rs4 b).xs) (q:Int)).u).toNat ((e_ sup1 ((e_ ((e_ rs4 b).xs) (q:Int)).u)) - 1)) ((e_ ((e_ rs4 b).xs) (q:Int)).v).toNat ((e_ (List.set sup1 ((e_ ((e_ rs4 b).xs) (q:Int)).u).toNat ((e_ sup1 ((e_ ((e_ rs4 b).xs) (q:Int)).u)) - 1)) ((e_ ((e_ rs4 b).xs) (q:Int)).v)) - 1))) (by dsimp only;exact ⟨om,(by rw [hlow];first|exact (low_yes (by simpa using g99) (by simpa using c106)).symm|exact (low_no (by first|(left;simpa using g99)|(right;simpa using c106))).symm),(by first|exact hs1l|(simp only [List.length_set];exact hs1l)),(by first|(rw [low_yes (by simpa using g99) (by simpa using c106)] at hlr;exact λx hx=>by have:=hlr x hx;push_cast;omega)|(rw [low_no (by first|(left;simpa using g99)|(right;simpa using c106))] at hlr;exact λx hx=>by have:=hlr x hx;push_cast;omega))⟩) (hL:=(Aa C (Aa C (Aa C (Aa C (Aa C (Aa C (Aa C (Aa C (Aa C (Aa C (Aa C (Aa (Dl C (by first|omega|rfl|((try dsimp only);first|exact best_yes (by simpa using g50) (by first|exact .inl g53|exact .inr c64)|exact (best_yes (by simpa using g50) (by first|exact .inl g53|exact .inr c64)).symm|exact best_no (by first|(left;simpa using g50)|exact .inr ⟨g53,c64⟩)|exact (best_no (by first|(left;simpa using g50)|exact .inr ⟨g53,c64⟩)).symm))) Bq)))))))))))))
      ·refine A4 (Ak (Ai (Av (S12 2 3 4 5 6 9 10 38 39 87 88 89 C C C C C C C C C C C C) (A0 (Gr (Rad C C) (Gm C (Bf ?_)))))))
       have hlow:((e_ rs4 b).xs.take (q+1)).foldl (lowT (List.set tr.gone (b).toNat (true))) tr.sup=lowT (List.set tr.gone (b).toNat (true)) sup1 (e_ (e_ rs4 b).xs (q:Int)):=by rw [Di _ q om,List.foldl_append,←hs1];rfl
       have hlr:=lowT_rng (gone:=(List.set tr.gone (b).toNat (true))) (p:=(e_ (e_ rs4 b).xs (q:Int))) (by have:=hpr om;omega) hsr
       have hll:=lowT_len (List.set tr.gone (b).toNat (true)) sup1 (e_ (e_ rs4 b).xs (q:Int))
       exact Ch ((q+1),(sup1)) (by dsimp only;exact ⟨om,(by rw [hlow];first|exact (low_yes (by simpa using g99) (by simpa using c106)).symm|exact (low_no (by first|(left;simpa using g99)|(right;simpa using c106))).symm),(by first|exact hs1l|(simp only [List.length_set];exact hs1l)),(by first|(rw [low_yes (by simpa using g99) (by simpa using c106)] at hlr;exact λx hx=>by have:=hlr x hx;push_cast;omega)|(rw [low_no (by first|(left;simpa using g99)|(right;simpa using c106))] at hlr;exact λx hx=>by have:=hlr x hx;push_cast;omega))⟩) (hL:=(Aa C (Aa C (Aa C (Aa C (Aa C (Aa C (Aa C (Aa C (Aa C (Aa C (Aa C (Aa (Dl C (by first|omega|rfl|((try dsimp only);first|exact best_yes (by simpa using g50) (by first|exact .inl g53|exact .inr c64)|exact (best_yes (by simpa using g50) (by first|exact .inl g53|exact .inr c64)).symm|exact best_no (by first|(left;simpa using g50)|exact .inr ⟨g53,c64⟩)|exact (best_no (by first|(left;simpa using g50)|exact .inr ⟨g53,c64⟩)).symm))) Bq)))))))))))))
     ·refine eb (eb (eb (eb (eb (eb (Gr (Al C C) (Ah (Av (S14 106 14 2 3 4 5 6 9 10 38 39 87 88 89 C C C C C C C C C C C C C C) (Eo C (A4 (Ak (Ai (Av (S12 2 3 4 5 6 9 10 38 39 87 88 89 C C C C C C C C C C C C) (A0 (Gr (Rad C C) (Gm C (Bf ?_)))))))))))))))))
      have hlow:((e_ rs4 b).xs.take (q+1)).foldl (lowT (List.set tr.gone (b).toNat (true))) tr.sup=lowT (List.set tr.gone (b).toNat (true)) sup1 (e_ (e_ rs4 b).xs (q:Int)):=by rw [Di _ q om,List.foldl_append,←hs1];rfl
      have hlr:=lowT_rng (gone:=(List.set tr.gone (b).toNat (true))) (p:=(e_ (e_ rs4 b).xs (q:Int))) (by have:=hpr om;omega) hsr
      have hll:=lowT_len (List.set tr.gone (b).toNat (true)) sup1 (e_ (e_ rs4 b).xs (q:Int))
      exact Ch ((q+1),(sup1)) (by dsimp only;exact ⟨om,(by rw [hlow];first|exact (low_yes (by simpa using g99) (by simpa using c106)).symm|exact (low_no (by first|(left;simpa using g99)|(right;simpa using c106))).symm),(by first|exact hs1l|(simp only [List.length_set];exact hs1l)),(by first|(rw [low_yes (by simpa using g99) (by simpa using c106)] at hlr;exact λx hx=>by have:=hlr x hx;push_cast;omega)|(rw [low_no (by first|(left;simpa using g99)|(right;simpa using c106))] at hlr;exact λx hx=>by have:=hlr x hx;push_cast;omega))⟩) (hL:=(Aa C (Aa C (Aa C (Aa C (Aa C (Aa C (Aa C (Aa C (Aa C (Aa C (Aa C (Aa (Dl C (by first|omega|rfl|((try dsimp only);first|exact best_yes (by simpa using g50) (by first|exact .inl g53|exact .inr c64)|exact (best_yes (by simpa using g50) (by first|exact .inl g53|exact .inr c64)).symm|exact best_no (by first|(left;simpa using g50)|exact .inr ⟨g53,c64⟩)|exact (best_no (by first|(left;simpa using g50)|exact .inr ⟨g53,c64⟩)).symm))) Bq)))))))))))))
    ·refine Bp (Ac (Ac (Aw (Ak (Ai (A0 (Gr (Rad C C) (Gm C (Bf ?_)))))))))
     have hstp:(TrS.mk sup1 (List.set tr.gone (b).toNat (true)) (List.set tr.num (b).toNat (max tr.k (e_ tr.sup b))) (tr.ord++[b]) (max tr.k (e_ tr.sup b)))=stepTr (trisE nd es) tr:=by unfold stepTr;rw [hbE,hs1,List.take_of_length_le om,rows_atG hrs4 hb0.1 om]
     exact Ch ((j+1),((TrS.mk sup1 (List.set tr.gone (b).toNat (true)) (List.set tr.num (b).toNat (max tr.k (e_ tr.sup b))) (tr.ord++[b]) (max tr.k (e_ tr.sup b)))),(ad12),(cp13)) (by dsimp only;exact ⟨om,(by rw [hstp,htr];rfl),(by rw [hstp];exact hok.step hTok om)⟩) (hL:=(Aa (Da C (by first|rfl|simp)) (Aa C (Aa C (Aa C (Aa C (Aa C (Aa (Dl C (by first|omega|rfl|((try dsimp only);first|exact best_yes (by simpa using g50) (by first|exact .inl g53|exact .inr c64)|exact (best_yes (by simpa using g50) (by first|exact .inl g53|exact .inr c64)).symm|exact best_no (by first|(left;simpa using g50)|exact .inr ⟨g53,c64⟩)|exact (best_no (by first|(left;simpa using g50)|exact .inr ⟨g53,c64⟩)).symm))) (Aa C (Aa (Dl C (by first|omega|rfl|((try dsimp only);first|exact best_yes (by simpa using g50) (by first|exact .inl g53|exact .inr c64)|exact (best_yes (by simpa using g50) (by first|exact .inl g53|exact .inr c64)).symm|exact best_no (by first|(left;simpa using g50)|exact .inr ⟨g53,c64⟩)|exact (best_no (by first|(left;simpa using g50)|exact .inr ⟨g53,c64⟩)).symm))) Bq))))))))))
  ·refine Bp (Ac (Ac (Aw (Ai (Aj (Gm C (Gm C (Ga C (Ga C (Ah (Av (S2 3 2 C C) (Az ?_))))))))))))
   have hje:j=(trisE nd es).length:=by omega
   subst hje
   subst htr
   have hnl:=hok.nlen
   exact C4 C C C (vc 3 (.slice ao (trussO (trisE nd es)).length co) (trussO (trisE nd es))::vc 3 (.slice ad9 (trussN (trisE nd es)).length cp10) (trussN (trisE nd es))::I) (by show Fit κ _ (vc 3 _ _::vc 3 (.slice _ (runTr (trisE nd es) (trisE nd es).length).num.length _) (runTr (trisE nd es) (trisE nd es).length).num::I);rw [hnl];simp only [List.length_replicate,htl];exact Bv) ⟨ao,co,ad9,cp10,by show _=Value.tuple #[_,.slice _ (runTr (trisE nd es) (trisE nd es).length).num.length _];rw [hnl];simp only [List.length_replicate,htl];rfl,rfl⟩
def trussG(nd:Int)(es:List Pt):List Int:=if checkG nd es≠0 then [] else trussN (trisE nd es)
theorem TNumbers_ok{κ:Ctx}{I:List Item}{nd:Int}{va:Value}{es:List Pt}(hl:Sl κ I va es)(hb:es.length<=1000000)(hT:TabRd κ I 0 tzCells):eu Tryz.prog κ 149 [.agg #[e7 nd,va]] I (λr J=>∃a c,r = .tuple #[.slice a (trussG nd es).length c,e7 (checkG nd es)]/\J=vc 3 (.slice a (trussG nd es).length c) (trussG nd es)::I):=by
 refine Ce1 Tryz.func149 C C ?_
 refine Aj (Ge1 (Bg (cs:=[_,_]) C C C) λb1=>Ga C (Ga C (Ah (Au (Aj (Gl2 ty48 ?_))))))
 refine Gc0 (Am call83 C C (CheckGen_ok (Bj hl))) ?_
 refine Ga C (Ah (Aj (Gm C (Gr (Bx C C) (Ah (Bd C (λc10=>?_) (λc10=>?_)))))))
 ·refine Aj (Gm C (Ga C (Ga C (Ah (Az (Ar ?_))))))
  have hX:(trussG nd es)=[]:=if_pos c10
  exact C4 C C C (vc 3 (.slice none (trussG nd es).length 0) (trussG nd es)::I) (by rw [hX];exact A8 (show Fit κ _ I from Ay) (B9 (α:=Int) _ _)) ⟨none,0,by rw [hX];rfl,rfl⟩
 ·refine A4 (Ai (Aj (Gl2 ty48 ?_)))
  refine G.e (Am call222 C C (TPeel_ok (nd:=nd) (Bj hl) (checkG_ok.1 (Classical.not_not.1 c10)) om (Bw hT Ay))) ?_
  rintro _ _ ⟨_,_,⟨ad2,cp3,ad4,cp5,rfl,rfl⟩,rfl,rfl⟩
  refine Gm C (Gr (Ax C C) (Gr (Ax C C) (Ga C (Ga C (Ah (Av (S1 6 C) (Aj (Gm C (Ga C (Ga C (Ah (Az ?_))))))))))))
  have hX:(trussG nd es)=_:=if_neg c10
  have hz:checkG nd es=0:=Classical.not_not.1 c10
  exact C4 C C C (vc 3 (.slice ad4 (trussG nd es).length cp5) (trussG nd es)::I) (by rw [hX];exact A5) ⟨ad4,cp5,by rw [hX,hz]<;>rfl,rfl⟩
theorem nbL_len(es:List Pt)(v:Int):(nbL es v).length<=2*es.length:=by
 induction es with
 |nil=>simp [nbL]
 |cons e es ih=>
  have e1:nbL (e::es) v=((if e.u=v then [e.v] else [])++(if e.v=v then [e.u] else []))++nbL es v:=rfl
  rw [e1,List.length_append,List.length_append,List.length_cons]
  have h1:(if e.u=v then [e.v] else ([]:List Int)).length<=1:=by split<;>simp
  have h2:(if e.v=v then [e.u] else ([]:List Int)).length<=1:=by split<;>simp
  omega
variable {κ:Ctx}{I:List Item}
structure FrV (x:Fr):Prop where
 n0:0<=x.num
 n1:x.num<=1073741824
 d0:1<=x.den
 d1:x.den<=1073741824
 cop:gcdI x.num x.den=1
theorem mkF_val{a b:Int}(h0:0<=a)(h1:a<=1073741824)(h2:0<b)(h3:b<=1073741824):FrV (mkF a b):=by
 have hn:=mkF_num h0 h2
 have hd:=mkF_den (a:=a) h2
 refine ⟨hn.1,by omega,hd.1,by omega,?_⟩
 obtain ⟨m,rfl⟩:=Int.eq_ofNat_of_zero_le h0
 obtain ⟨n,rfl⟩:=Int.eq_ofNat_of_zero_le (show 0<=b by omega)
 have hg:0<m.gcd n:=Nat.gcd_pos_of_pos_right _ om
 have hc:=Nat.coprime_div_gcd_div_gcd hg
 unfold mkF gcdI
 simp only [Int.toNat_natCast,Int.ofNat_eq_natCast,←Int.natCast_ediv]
 rw [hc.gcd_eq_one];rfl
def cmpF(x y:Fr):Int:=if x.num*y.den<y.num*x.den then -1 else if y.num*x.den<x.num*y.den then 1 else 0
def sgnI(n:Int):Int:=if n<0 then -1 else if 0<n then 1 else 0
theorem sgn_bd(n:Int) : -1<=sgnI n/\sgnI n<=1:=by unfold sgnI;split<;>(try split)<;>omega
theorem mul_small{x y:Int}(hx:0<=x/\x<=1073741824)(hy:0<=y/\y<=1073741824):0<=x*y/\x*y<=1152921504606846976:=by
 refine ⟨Int.mul_nonneg hx.1 hy.1,?_⟩
 have h1:=Int.mul_le_mul hx.2 hy.2 hy.1 dc
 omega
theorem FrV.mul{x y:Fr}(hx:FrV x)(hy:FrV y):(0<=x.num*y.den/\x.num*y.den<=1152921504606846976)/\(0<x.num->0<x.num*y.den):=by
 have h1:=hx.n0;have h2:=hx.n1;have h3:=hy.d0;have h4:=hy.d1
 exact ⟨mul_small ⟨h1,h2⟩ ⟨by omega,h4⟩,λh=>Int.mul_pos h om⟩
theorem Mul64_ok(x y:Int)(hx:0<=x/\x<=1073741824)(hy:0<=y/\y<=1073741824):eu Tryz.prog κ 173 [.int .u64 x,.int .u64 y] I (λr J=>r = .tuple #[.int .u64 0,.int .u64 (x*y)]/\I=J):=by
 have hxy:=mul_small hx hy
 refine Ce2 Tryz.func173 C C ?_
 exact Aj (Ga C (Ga C (Ah (Aj (Gm C (Gr (Runs.lowU (m:=x) (r:=x) C C om om om) (Ga C (Ah (Aj (Gm C (Gr (Runs.shr32 (m:=x) (r:=0) C C om) (Ga C (Ah (Aj (Gm C (Gr (Runs.lowU (m:=y) (r:=y) C C om om om) (Ga C (Ah (Aj (Gm C (Gr (Runs.shr32 (m:=y) (r:=0) C C om) (Ga C (Ah (Av (S6 9 8 7 6 0 1 C C C C C C) (Aj (Gm C (Gm C (Gr (Runs.mulU (m:=x) (n:=y) (r:=x*y) C C C om om) (Ga C (Ah (Aj (Gm C (Gm C (Gr (Runs.mulU (m:=0) (n:=y) (r:=0) C C (Int.zero_mul _) om om) (Gm C (Gr (Runs.shr32 (m:=x*y) (r:=x*y / 4294967296) C C om) (Gr (Runs.addU (m:=0) (n:=x*y / 4294967296) (r:=x*y / 4294967296) C C om om om) (Ga C (Ah (Av (S6 11 9 7 6 0 1 C C C C C C) (Aj (Gm C (Gr (Runs.lowU (m:=x*y / 4294967296) (r:=x*y / 4294967296) C C om om om) (Ga C (Ah (Aj (Gm C (Gr (Runs.shr32 (m:=x*y / 4294967296) (r:=0) C C om) (Ga C (Ah (Aj (Gm C (Gm C (Gm C (Gr (Runs.mulU (m:=x) (n:=0) (r:=0) C C (Int.mul_zero _) om om) (Gr (Runs.addU (m:=x*y / 4294967296) (n:=0) (r:=x*y / 4294967296) C C om om om) (Ga C (Ah (Av (S6 12 13 9 7 0 1 C C C C C C) (Aj (Gm C (Gm C (Gr (Runs.mulU (m:=0) (n:=0) (r:=0) C C (Int.zero_mul _) om om) (Gm C (Gr (Runs.addU (m:=0) (n:=0) (r:=0) C C om om om) (Gm C (Gr (Runs.shr32 (m:=x*y / 4294967296) (r:=0) C C om) (Gr (Runs.addU (m:=0) (n:=0) (r:=0) C C om om om) (Ga C (Ah (Av (S3 4 0 1 C C C) (Aj (Gm C (Gm C (Gr (Runs.mulU (m:=x) (n:=y) (r:=x*y) C C C om om) (Ga C (Ah (Az (C4 C C C I Ay ⟨rfl,rfl⟩)))))))))))))))))))))))))))))))))))))))))))))))))))))))))))))))))))))))))))))))
theorem Sign_ok(n:Int):eu Tryz.prog κ 172 [e7 n] I (λr J=>r=e7 (sgnI n)/\I=J):=by
 refine Ce1 Tryz.func172 C C ?_
 refine Aj (Ga C (Ah (Au (A6 (Aj (Gm C (Gr (Bi C C) (Ga C (Ah (Bd C (λc3=>?_) (λc3=>?_)))))))))))
 ·exact Aj (Ga C (Ah (Az (A3 (Ar (Ba C C I Ay ⟨by unfold sgnI;first|rw [if_pos c3]|rw [if_neg c3,if_pos c6]|rw [if_neg c3,if_neg c6],rfl⟩))))))
 ·refine Aj (Gm C (Gr (Ci C C) (Ga C (Ah (Bd C (λc6=>?_) (λc6=>?_))))))
  ·exact Aj (Ga C (Ah (Az (A3 (Ar (Ba C C I Ay ⟨by unfold sgnI;first|rw [if_pos c3]|rw [if_neg c3,if_pos c6]|rw [if_neg c3,if_neg c6],rfl⟩))))))
  ·exact A4 (Ak (Ai (Aj (Ga C (Ah (Az (Ba C C I Ay ⟨by unfold sgnI;first|rw [if_pos c3]|rw [if_neg c3,if_pos c6]|rw [if_neg c3,if_neg c6],rfl⟩)))))))
theorem RatValid_ok(x:Fr)(hx:FrV x):eu Tryz.prog κ 89 [.agg #[e7 (x.num),e7 (x.den)]] I (λr J=>r = .bool true/\I=J):=by
 have hn0x:=hx.n0
 have hn1x:=hx.n1
 have hd0x:=hx.d0
 have hd1x:=hx.d1
 refine Ce1 Tryz.func89 C C ?_
 refine Aj (Ge1 (Bg (cs:=[_,_]) C C C) λb1=>Ga C (Ah (Aj (Gf fld40_0 C (Gl ef ?_)))))
 refine G.e (Am call157 C C (RWithin_ok x.num 1152921504606846976 om)) ?_
 rintro _ _ ⟨_,_,⟨rfl,rfl⟩,rfl,rfl⟩
 refine Gm C (Bs (d:=6) C (λg6=>?_) (λg6=>?_))
 ·refine e9 (Ab fld40_1 C) (e9 (As ef) ?_)
  refine e9 (Cu C C) (Gr (Ap C C) (Gm C (Bs (d:=11) C (λg11=>?_) (λg11=>?_))))
  ·refine e9 (Ab fld40_1 C) (e9 (As ef) ?_)
   refine e9 (Ei C C) (Gr (Ap C C) (Gm C (Bs (d:=16) C (λg16=>?_) (λg16=>?_))))
   ·refine e9 (Ab fld40_0 C) (e9 (As ef) ?_)
    refine e9 (Ab fld40_0 C) (e9 (As ef) ?_)
    refine e9 (Runs.neg C (by unfold InR;omega)) (e9 (D7 C C) ?_)
    have hmx22:(if x.num < -(x.num) then -(x.num) else x.num)=x.num:=by rw [if_neg om]
    rw [hmx22]
    refine e9 (Ab fld40_1 C) (e9 (As ef) ?_)
    refine Et (Cz C C C) (Am call158 C C (Common_ok x.num x.den om om)) ?_
    rintro _ _ ⟨_,_,⟨rfl,rfl⟩,rfl,rfl⟩
    exact e9 (Bl C C) (Gr (Ap C C) (Ga C (Ah (Av (S1 2 C) (Az (Ba C C I Ay ⟨by rw [decide_eq_true hx.cop],rfl⟩))))))
   ·exact absurd om g16
  ·exact absurd om g11
 ·exact absurd om g6
set_option maxHeartbeats 1000000 in
theorem RatCmp_ok(x y:Fr)(hx:FrV x)(hy:FrV y):eu Tryz.prog κ 101 [.agg #[e7 (x.num),e7 (x.den)],.agg #[e7 (y.num),e7 (y.den)]] I (λr J=>r=e7 (cmpF x y)/\I=J):=by
 have hn0x:=hx.n0
 have hn1x:=hx.n1
 have hd0x:=hx.d0
 have hd1x:=hx.d1
 have hn0y:=hy.n0
 have hn1y:=hy.n1
 have hd0y:=hy.d0
 have hd1y:=hy.d1
 have hb1:=sgn_bd x.num
 have hb2:=sgn_bd y.num
 have hm1:=hx.mul hy
 have hm2:=hy.mul hx
 have hz1:x.num=0->x.num*y.den=0:=λh=>by rw [h,Int.zero_mul]
 have hz2:y.num=0->y.num*x.den=0:=λh=>by rw [h,Int.zero_mul]
 refine Ce2 Tryz.func101 C C ?_
 refine Aj (Ge1 (Bg (cs:=[_,_]) C C C) λb1=>Ge1 (Bg (cs:=[_,_]) C C C) λb2=>Ga C (Ah (Au (Aj (Gl2 ty40 ?_)))))
 refine Gc0 (Am call89 C C (RatValid_ok x asm)) ?_
 refine Gr (B8 C) (Gm C (e9 (Be (vs:=[_,_]) ty40) ?_))
 refine Et (Cz C C C) (Am call89 C C (RatValid_ok y asm)) ?_
 rintro _ _ ⟨_,_,⟨rfl,rfl⟩,rfl,rfl⟩
 refine e9 (B8 C) (Gr (Al C C) (Ah (Eo C (A4 (Ai (Aj (Gf fld40_0 C (Gl ef ?_))))))))
 refine Gc0 (Am call172 C C (Sign_ok x.num)) ?_
 refine Ga C (Ah (Av (S3 5 3 2 C C C) (Au (Aj (Gf fld40_0 C (Gl ef ?_))))))
 refine Gc0 (Am call172 C C (Sign_ok y.num)) ?_
 refine Ga C (Ah (Aj (Gm C (Gm C (Gr (Bx C C) (Gm C (Bs (d:=28) C (λg28=>?_) (λg28=>?_))))))))
 ·refine eb (eb (Gr (Ap C C) (Ah (Av (S5 31 6 5 3 2 C C C C C) (Do C (Aj (Gm C (Gm C (Gr (Rsu C C) (Gc0 (Am call172 C C (Sign_ok ((sgnI x.num) - (sgnI y.num)))) ?_))))))))))
  refine Ga C (Ah (Az (Ar ?_)))
  have hsx:sgnI x.num=if x.num<0 then -1 else if 0<x.num then 1 else 0:=rfl
  have hsy:sgnI y.num=if y.num<0 then -1 else if 0<y.num then 1 else 0:=rfl
  exact Ba C C I Ay ⟨congrArg e7 (by first|(have hss:sgnI (sgnI x.num - sgnI y.num)=if sgnI x.num - sgnI y.num<0 then -1 else if 0<sgnI x.num - sgnI y.num then 1 else 0:=rfl;unfold cmpF;rw [hss];repeat (first|omega|split))|(unfold cmpF;repeat (first|omega|split))),rfl⟩
 ·refine e9 (Af C) (e9 (Bl C C) (Gr (Al C C) (Ah (Av (S5 31 6 5 3 2 C C C C C) (Bd C (λc31=>?_) (λc31=>?_))))))
  ·refine Aj (Gm C (Gm C (Gr (Rsu C C) (Gc0 (Am call172 C C (Sign_ok ((sgnI x.num) - (sgnI y.num)))) ?_))))
   refine Ga C (Ah (Az (Ar ?_)))
   have hsx:sgnI x.num=if x.num<0 then -1 else if 0<x.num then 1 else 0:=rfl
   have hsy:sgnI y.num=if y.num<0 then -1 else if 0<y.num then 1 else 0:=rfl
   exact Ba C C I Ay ⟨congrArg e7 (by first|(have hss:sgnI (sgnI x.num - sgnI y.num)=if sgnI x.num - sgnI y.num<0 then -1 else if 0<sgnI x.num - sgnI y.num then 1 else 0:=rfl;unfold cmpF;rw [hss];repeat (first|omega|split))|(unfold cmpF;repeat (first|omega|split))),rfl⟩
  ·refine A4 (Ai (Aj (Gf fld40_0 C (Gl ef ?_))))
   refine Gf fld40_0 C (Gl ef ?_)
   refine Gr (Runs.neg C (by unfold InR;omega)) (Gr (D7 C C) ?_)
   have hmx42:(if x.num < -(x.num) then -(x.num) else x.num)=x.num:=by rw [if_neg om]
   rw [hmx42]
   refine Gr (Fq Bo D0 C om) (Gf fld40_1 C (Gl ef ?_))
   refine Gr (Fq Bo D0 C om) (G.e (Am call173 C C (Mul64_ok x.num y.den om om)) ?_)
   rintro _ _ ⟨_,_,⟨rfl,rfl⟩,rfl,rfl⟩
   refine Gm C (Gr (Ax C C) (Gr (Ax C C) (Ga C (Ga C (Ah (Av (S5 8 7 5 3 2 C C C C C) (Aj (Gf fld40_0 C (Gl ef ?_)))))))))
   refine Gf fld40_0 C (Gl ef ?_)
   refine Gr (Runs.neg C (by unfold InR;omega)) (Gr (D7 C C) ?_)
   have hmx56:(if y.num < -(y.num) then -(y.num) else y.num)=y.num:=by rw [if_neg om]
   rw [hmx56]
   refine Gr (Fq Bo D0 C om) (Gf fld40_1 C (Gl ef ?_))
   refine Gr (Fq Bo D0 C om) (G.e (Am call173 C C (Mul64_ok y.num x.den om om)) ?_)
   rintro _ _ ⟨_,_,⟨rfl,rfl⟩,rfl,rfl⟩
   refine Gm C (Gr (Ax C C) (Gr (Ax C C) (Ga C (Ga C (Ah (Av (S5 10 9 8 7 5 C C C C C) (Au (A6 (Aj (Gm C (Gm C (Gr (Bl C C) (Gm C (Bs (d:=68) C (λg68=>?_) (λg68=>?_)))))))))))))))
   ·refine e9 (Af C) (e9 (Af C) (e9 (Bl C C) (Gr (Ap C C) (Ga C (Ah (Av (S6 64 10 9 8 7 5 C C C C C C) (Bd C (λc64=>?_) (λc64=>?_))))))))
    ·refine Aj (Ga C (Ah (Az (A3 (Ar ?_)))))
     have hsx:sgnI x.num=if x.num<0 then -1 else if 0<x.num then 1 else 0:=rfl
     have hsy:sgnI y.num=if y.num<0 then -1 else if 0<y.num then 1 else 0:=rfl
     exact Ba C C I Ay ⟨congrArg e7 (by first|(have hss:sgnI (sgnI x.num - sgnI y.num)=if sgnI x.num - sgnI y.num<0 then -1 else if 0<sgnI x.num - sgnI y.num then 1 else 0:=rfl;unfold cmpF;rw [hss];repeat (first|omega|split))|(unfold cmpF;repeat (first|omega|split))),rfl⟩
    ·refine Aj (Gm C (Gm C (Gr (Bi C C) (Gm C (Bs (d:=77) C (λg77=>?_) (λg77=>?_))))))
     ·exact absurd g77 dc
     ·refine e9 (Af C) (e9 (Af C) (e9 (Bl C C) (e9 (Af C) (Bs (d:=81) C (λg81=>?_) (λg81=>?_)))))
      ·refine e9 (Af C) (e9 (Af C) (e9 (Bi C C) (e9 (Ap C C) (Gr (Al C C) (Ga C (Ah (Av (S2 73 5 C C) (Bd C (λc73=>?_) (λc73=>?_)))))))))
       ·refine Aj (Gm C (Gr (Runs.neg C (by unfold InR;omega)) (Ga C (Ah (Az (A3 (Ar ?_)))))))
        have hsx:sgnI x.num=if x.num<0 then -1 else if 0<x.num then 1 else 0:=rfl
        have hsy:sgnI y.num=if y.num<0 then -1 else if 0<y.num then 1 else 0:=rfl
        exact Ba C C I Ay ⟨congrArg e7 (by first|(have hss:sgnI (sgnI x.num - sgnI y.num)=if sgnI x.num - sgnI y.num<0 then -1 else if 0<sgnI x.num - sgnI y.num then 1 else 0:=rfl;unfold cmpF;rw [hss];repeat (first|omega|split))|(unfold cmpF;repeat (first|omega|split))),rfl⟩
       ·refine A4 (Ak (Ai (Aj (Gm C (Ga C (Ah (Az ?_)))))))
        have hsx:sgnI x.num=if x.num<0 then -1 else if 0<x.num then 1 else 0:=rfl
        have hsy:sgnI y.num=if y.num<0 then -1 else if 0<y.num then 1 else 0:=rfl
        exact Ba C C I Ay ⟨congrArg e7 (by first|(have hss:sgnI (sgnI x.num - sgnI y.num)=if sgnI x.num - sgnI y.num<0 then -1 else if 0<sgnI x.num - sgnI y.num then 1 else 0:=rfl;unfold cmpF;rw [hss];repeat (first|omega|split))|(unfold cmpF;repeat (first|omega|split))),rfl⟩
      ·exact absurd rfl g81
   ·exact absurd rfl g68
theorem BestR.frv{nd N D:Int}{es:List Pt}{B:BitVec 64}(h:BestR nd es N D B)(hG:GrOk nd es):FrV ⟨N,D⟩:=by
 by_cases hn:nd=0
 ·obtain ⟨h1,h2,_⟩:=h.none (checkG_ok.2 hG) hn
  subst h1 h2
  exact ⟨by decide,by decide,by decide,by decide,by decide⟩
 ·obtain ⟨x,y,hx,hy,e⟩:=(h.some (checkG_ok.2 hG) hn).red
  rw [e]
  exact mkF_val hx.1 om om om
theorem cmpF_ge{x y:Fr}:0<=cmpF x y↔y.num*x.den<=x.num*y.den:=by unfold cmpF;repeat (first|omega|split)
def densQ(nd:Int)(es:List Pt)(num den:Int):Prop:=if nd=0 then num<=0 else ∃W,subN nd W/\W≠0#64/\num*cntB W<=den*insE W es
theorem BestR.holds{nd N D num den:Int}{es:List Pt}{B:BitVec 64}(h:BestR nd es N D B)(hG:GrOk nd es)(hf:FrV ⟨num,den⟩):0<=cmpF ⟨N,D⟩ ⟨num,den⟩↔densQ nd es num den:=by
 rw [cmpF_ge]
 unfold densQ
 by_cases hn:nd=0
 ·obtain ⟨h1,h2,_⟩:=h.none (checkG_ok.2 hG) hn
  subst h1 h2
  rw [if_pos hn]
  show num*1<=0*den↔_
  omega
 ·rw [if_neg hn]
  have hd:=h.some (checkG_ok.2 hG) hn
  exact hd.dens.reach hd.den.1 hf.d0
def commG(nd:Int)(es:List Pt)(v lv:Int):List Int:=rchG nd es [v] (coreK nd es lv)
theorem rchG_len(nd:Int)(es:List Pt)(f s:List Int):(rchG nd es f s).length<=64:=by
 unfold rchG
 split
 ·simp
 ·exact Em _
theorem Comm_ok{κ:Ctx}{I:List Item}{nd v lv:Int}{ea:Option Addr}{ec:Nat}{es:List Pt}(hl:Sl κ I (.slice ea es.length ec) es)(hG:GrOk nd es)(hv:0<=v/\v<nd)(hT:TabRd κ I 0 tzCells):eu Tryz.prog κ 59 [.agg #[e7 nd,.slice ea es.length ec],e7 v,e7 lv] I (λr J=>∃a c,r = .tuple #[.slice a (commG nd es v lv).length c,e7 0]/\J=vc 3 (.slice a (commG nd es v lv).length c) (commG nd es v lv)::I):=by
 refine Ce3 Tryz.func59 C C ?_
 refine Aj (Ge1 (Bg (cs:=[_,_]) C C C) λb1=>Ga C (Ga C (Ah (Au (Aj (Gl2 ty48 ?_))))))
 refine Gc0 (Am call83 C C (CheckGen_ok (Bj hl))) ?_
 refine Ga C (Ah (Aj (Gm C (Gr (Bx C C) (Ah (Bd C (λc14=>?_) (λc14=>?_)))))))
 ·exact absurd (checkG_ok.2 hG) c14
 ·refine A4 (Ai (Au (Aj (Gm C (Gr (Bi C C) (Gm C (Bs (d:=18) C (λg18=>?_) (λg18=>?_))))))))
  ·omega
  ·refine e9 (Af C) (e9 (Ab fld48_0 C) (e9 (As ef) ?_))
   refine e9 (Cu C C) (Gr (Al C C) (Ah (Av (S4 23 3 1 2 C C C C) (Bd C (λc23=>?_) (λc23=>?_)))))
   ·omega
   ·refine A4 (Ai (Aj (Gl2 ty48 ?_)))
    refine Gm C (G.e (Am call109 C C (CCore_ok (nd:=nd) (lv:=lv) (Bj hl) (Bw hT Ay))) ?_)
    rintro _ _ ⟨_,_,⟨ad2,cp3,rfl,rfl⟩,rfl,rfl⟩
    refine Gm C (Gr (Ax C C) (Gr (Ax C C) (Ga C (Ga C (Ah (Au (Aj (Gm C (Gr (Bx C C) (Ah (Av (S5 31 10 9 3 1 C C C C C) (Bd C (λc31=>?_) (λc31=>?_)))))))))))))
    ·exact absurd (checkG_ok.2 hG) c31
    ·refine A4 (Ai (Aj (Gl2 ty48 ?_)))
     refine Gm C (Ge1 (Cj (α:=Int) (cs:=[_]) (xs:=[v]) Ad ef C C dc dc C C C C) λad4=>?_)
     refine Gm C (Gc2 (Am call110 C C (CReach_ok (nd:=nd) (Bj hl) Bk Bk (Bw hT Ay))) λad5 cp6=>?_)
     exact Gr (Ax C C) (Gr (Ax C C) (Ga C (Ga C (Ah (Av (S2 7 6 C C) (Az (C4 C C C (vc 3 (.slice ad5 (rchG nd es ([v]:List Int) (coreK nd es lv)).length cp6) (commG nd es v lv)::I) Bv ⟨ad5,cp6,by rw [checkG_ok.2 hG]<;>rfl,rfl⟩)))))))
section
variable {nd kd wd mo tm:Int}{es:List Ev}{fst own:Bool}{j j1:Nat}
theorem all_le(hH:HistOk nd kd wd mo es){i k:Nat}(h:i<=k)(hk:k<(allE kd wd mo es).length):(e_ (allE kd wd mo es) i).tm<=(e_ (allE kd wd mo es) k).tm:=by
 by_cases e:i=k
 ·subst e;exact Int.le_refl _
 ·rw [Db _ i om,Db _ k hk]
  exact (List.pairwise_iff_getElem.1 hH.all_asc) i k om hk om
theorem mom_bef(hH:HistOk nd kd wd mo es)(hM:MomentX (allE kd wd mo es) fst j tm own j1):∀i:Nat,i<j1->(e_ (allE kd wd mo es) i).tm<=tm:=λi hi=>by
 by_cases h:i<j
 ·cases hf:fst with
  |true=>have:=(hM.first hf).2;omega
  |false=>
   obtain ⟨h1,h2⟩:=hM.next hf
   rw [h2];exact all_le hH om h1
 ·exact Int.le_of_eq (hM.same i om hi)
theorem mom_next(hH:HistOk nd kd wd mo es)(hM:MomentX (allE kd wd mo es) fst j tm own j1)(h:j1<(allE kd wd mo es).length):tm<(e_ (allE kd wd mo es) j1).tm:=by
 have hne:=hM.stop h
 have hle:tm<=(e_ (allE kd wd mo es) j1).tm:=by
  cases hf:fst with
  |true=>
   rw [(hM.first hf).1]
   exact (hH.allFit _ (Cq (xs:=allE kd wd mo es) (i:=(j1:Int)) om om)).tm.1
  |false=>
   obtain ⟨h1,h2⟩:=hM.next hf
   rw [h2];exact all_le hH (by have:=hM.le.1;omega) h
 omega
theorem mom_graph(hH:HistOk nd kd wd mo es)(hM:MomentX (allE kd wd mo es) fst j tm own j1):edgesK (eh ((allE kd wd mo es).take j1))=atG kd wd mo es tm:=by
 unfold atG
 rw [atK_stop hM.le.2 (mom_bef hH hM) (mom_next hH hM)]
def FirstYes(kd wd mo:Int)(es:List Ev)(p:Int->Prop)(t:Int):Prop:=(∃e∈allE kd wd mo es,e.tm=t)/\p t/\∀e∈allE kd wd mo es,e.tm<t->¬p e.tm
def FirstP(kd wd mo:Int)(es:List Ev)(p:Int->Prop)(t:Int)(ok:Bool):Prop:=(ok=true/\FirstYes kd wd mo es p t)\/(ok=false/\t=0/\∀e∈allE kd wd mo es,¬p e.tm)
theorem fi_next{p:Int->Prop}(hM:MomentX (allE kd wd mo es) fst j tm own j1)(hq:∀i:Nat,i<j->¬p (e_ (allE kd wd mo es) i).tm)(hn:own=true->¬p tm):∀i:Nat,i<j1->¬p (e_ (allE kd wd mo es) i).tm:=λi hi=>by
 by_cases h:i<j
 ·exact hq i h
 ·rw [hM.same i om hi]
  exact hn (by rw [hM.own,decide_eq_true om])
theorem fi_yes{p:Int->Prop}(hH:HistOk nd kd wd mo es)(hM:MomentX (allE kd wd mo es) fst j tm own j1)(hq:∀i:Nat,i<j->¬p (e_ (allE kd wd mo es) i).tm)(ho:own=true)(hp:p tm):FirstYes kd wd mo es p tm:=by
 have hj:j<j1:=by have:=hM.own;rw [ho] at this;exact of_decide_eq_true this.symm
 have hl:=hM.le.2
 refine ⟨⟨_,Cq (xs:=allE kd wd mo es) (i:=(j:Int)) om om,hM.same j (Nat.le_refl _) hj⟩,hp,λe he hlt=>?_⟩
 obtain ⟨i,hi,rfl⟩:=mem_at he
 by_cases h:i<j
 ·exact hq i h
 ·have h1:=all_le hH (i:=j) (k:=i) om hi
  rw [hM.same j (Nat.le_refl _) hj] at h1
  omega
theorem fi_no{p:Int->Prop}(hq:∀i:Nat,i<(allE kd wd mo es).length->¬p (e_ (allE kd wd mo es) i).tm):∀e∈allE kd wd mo es,¬p e.tm:=λe he=>by
 obtain ⟨i,hi,rfl⟩:=mem_at he
 exact hq i hi
end
def reachQ(nd kd wd mo:Int)(es:List Ev)(num den t:Int):Prop:=densQ nd (atG kd wd mo es t) num den
set_option maxHeartbeats 2000000 in
theorem AFirst_ok{κ:Ctx}{I:List Item}{nd kd wd mo num den:Int}{ea:Option Addr}{ec:Nat}{es:List Ev}(hl:Sl κ I (.slice ea es.length ec) es)(hH:HistOk nd kd wd mo es)(hlen:es.length<=19)(hf:FrV ⟨num,den⟩)(hT:TabRd κ I 0 tzCells):eu Tryz.prog κ 47 [e7 nd,.slice ea es.length ec,.agg #[e7 kd,e7 wd,e7 mo],.agg #[e7 num,e7 den]] I (λr J=>∃tv ok,r = .tuple #[e7 tv,.bool ok,e7 0]/\FirstP kd wd mo es (reachQ nd kd wd mo es num den) tv ok/\I=J):=by
 refine eu.enterM (L:=[(0,e7 nd),(1,.slice ea es.length ec),(2,.agg #[e7 kd,e7 wd,e7 mo]),(3,.agg #[e7 num,e7 den])]) Tryz.func47 C C C C ?_
 refine Aj (Ge1 (Bg (cs:=[_,_,_]) C C C) λb1=>Ge1 (Bg (cs:=[_,_]) C C C) λb2=>Ge1 (A9 ef C) λb3=>Ge1 (A9 ty4 C) λb4=>Ge1 (A9 ty36 C) λb5=>Ah (Au (Aj (Gm C (Gm C (Gl3 ty31 ?_))))))
 refine Gc0 (Am call97 C C (ACheck_ok (nd:=nd) (kd:=kd) (wd:=wd) (mo:=mo) (Bj hl))) ?_
 refine Ga C (Ah (Av (S8 11 10 9 8 7 6 0 1 C C C C C C C C) (Aj (Gm C (Gr (Bx C C) (Ah (Bd C (λc21=>?_) (λc21=>?_))))))))
 ·exact absurd (slideE_zeroH hH) c21
 ·refine A4 (Ai (Au (Aj (Gl2 ty40 ?_))))
  refine Gc0 (Am call89 C C (RatValid_ok (⟨num,den⟩:Fr) (by first|exact hf|exact hBR.frv hGr))) ?_
  refine Gr (B8 C) (Ah (Eo C (A4 (Ai (Au (Aj (Gm C (Gm C (Gl3 ty31 ?_)))))))))
  refine G.e (Am call98 C C Frames_ok) ?_
  rintro _ _ ⟨_,_,⟨qb6,qb7,qb8,rfl,rfl⟩,rfl,rfl⟩
  refine Ah (Av (S5 29 10 9 8 7 C C C C C) (A6 (W.fit (J:=e8 b3 [e7 0] 3::e8 b4 [.bool false] 4::e8 b5 [e7 0] 36::e8 qb8 [e7 kd,e7 wd,e7 mo] 31::e8 qb7 [.slice ea es.length ec] 28::e8 qb6 [e7 nd] 3::e8 b2 [e7 num,e7 den] 40::e8 b1 [e7 kd,e7 wd,e7 mo] 31::I) Bv ?_)))
  refine W.rangeFnB (gf:=165) (lb:=[.pointer (some ⟨qb6,0,none⟩),.pointer (some ⟨qb7,0,none⟩),.pointer (some ⟨qb8,0,none⟩)]) C call165 λDm l rc hr1 hr2 hr3 hr4 hta=>?_
  refine (Frames1_ok (I:=e8 qb8 [e7 kd,e7 wd,e7 mo] 31::e8 qb7 [.slice ea es.length ec] 28::e8 qb6 [e7 nd] 3::e8 b2 [e7 num,e7 den] 40::e8 b1 [e7 kd,e7 wd,e7 mo] 31::I) (σ:=Unit) (τ:=Int) (l:=l) (Lf:=λs=>[recI l rc,dfrI Dm,e8 b3 [e7 0] 3,e8 b4 [.bool false] 4,e8 b5 [e7 0] 36]) (Pf:=λfst j s=>(∀i:Nat,i<j->¬(reachQ nd kd wd mo es num den) (e_ (allE kd wd mo es) i).tm)) (Xf:=λs=>[recI l {rc with state:= .done,pending:=some .ret},dfrI Dm,e8 b3 [e7 s] 3,e8 b4 [.bool true] 4,e8 b5 [e7 0] 36]) (Qf:=λs=>(FirstYes kd wd mo es (reachQ nd kd wd mo es num den) s)) (s0:=()) hH hlen (C2 mm) (C2 mm) (C2 mm) (Bj hl) (λi h=>absurd h (Nat.not_lt_zero i)) ?_).mono ?_
  ·rintro T hTI fst j tm own j1 ga gc hM _ hp
   have hq:(∀i:Nat,i<j->¬(reachQ nd kd wd mo es num den) (e_ (allE kd wd mo es) i).tm):=hp
   have hbq0:BlkRd κ T b2 [e7 num,e7 den] 40:=(C2 (I:=e8 qb8 [e7 kd,e7 wd,e7 mo] 31::e8 qb7 [.slice ea es.length ec] 28::e8 qb6 [e7 nd] 3::e8 b2 [e7 num,e7 den] 40::e8 b1 [e7 kd,e7 wd,e7 mo] 31::I) mm).fit hTI
   have hTT:TabRd κ T 0 tzCells:=(Bw (J:=e8 qb8 [e7 kd,e7 wd,e7 mo] 31::e8 qb7 [.slice ea es.length ec] 28::e8 qb6 [e7 nd] 3::e8 b2 [e7 num,e7 den] 40::e8 b1 [e7 kd,e7 wd,e7 mo] 31::I) hT Ay).fit hTI
   have hmg:=mom_graph hH hM
   have hGr:GrOk nd (edgesK (eh ((allE kd wd mo es).take j1))):=by rw [hmg];exact hH.graph tm
   refine YieldB.fit (J:=recI l rc::vc 135 (.slice ga (edgesK (eh ((allE kd wd mo es).take j1))).length gc) (edgesK (eh ((allE kd wd mo es).take j1)))::dfrI Dm::e8 b3 [e7 0] 3::e8 b4 [.bool false] 4::e8 b5 [e7 0] 36::T) Bv ?_
   refine YieldB.mkA (L₀:=[(31,.agg #[e7 nd,.slice ga (edgesK (eh ((allE kd wd mo es).take j1))).length gc]),(30,.agg #[e7 tm,.bool own]),(29,.func (.func 165) #[] #[.pointer (some ⟨qb6,0,none⟩),.pointer (some ⟨qb7,0,none⟩),.pointer (some ⟨qb8,0,none⟩)]),(10,.pointer (some ⟨b5,0,none⟩)),(9,.pointer (some ⟨b4,0,none⟩)),(8,.pointer (some ⟨b3,0,none⟩)),(7,.pointer (some ⟨b2,0,none⟩))]) (by rw [hr2];rfl) hr3 hr4 (by rw [hr2,fold_two];exact ag_two hta C C) ?_
   refine Ey ?_
   refine Dq (λ_ _ h=>False.elim h) C ?_
   refine Ge1 (A9 ty153 C) λb9=>Ge0 (Cs ty153) ?_
   refine Bf (D6 ?_)
   refine Dq (λ_ _ h=>False.elim h) C ?_
   refine Ge1 (A9 ty48 C) λb10=>Ge0 (Cs ty48) ?_
   refine Bf (V.begin (e8 b10 [e7 nd,.slice ga (edgesK (eh ((allE kd wd mo es).take j1))).length gc] 48::e8 b9 [e7 tm,.bool own] 153::vc 135 (.slice ga (edgesK (eh ((allE kd wd mo es).take j1))).length gc) (edgesK (eh ((allE kd wd mo es).take j1)))::dfrI Dm::e8 b3 [e7 0] 3::e8 b4 [.bool false] 4::e8 b5 [e7 0] 36::T) Bv hr1 ?_)
   refine WR.block ?_
   refine Ey ?_
   refine Dq (λ_ _ h=>False.elim h) C ?_
   refine Gl2 ty48 ?_
   refine G.e (Am call100 C C (BestD_ok (nd:=nd) Bk (Bw hTT Ay))) ?_
   rintro _ _ ⟨_,_,⟨ad11,cp12,Bqq15,ad13,cp14,ptq15,Nqq15,Dqq15,Eqq15,rfl,⟨hBR,hSB⟩,rfl⟩,rfl,rfl⟩
   refine Gm C (Gr (Ax C C) (Gr (Ax C C) (Ge1 (A9 ty102 C) λb16=>Ge0 (Dn ty102) ?_)))
   refine Ga C (Bf (D6 ?_))
   refine Fb (L':=[(15,_),(14,_),(12,_),(10,_),(9,_),(8,_),(7,_)]) (Aa C (Aa C (Aa C (Aa C (Aa C (Aa C (Aa C Bq))))))) ?_
   refine Ey ?_
   refine Dq (λ_ _ h=>False.elim h) C ?_
   refine Gf fld153_1 C (Gl ty4 ?_)
   refine Gm C (Ck (d:=39) C (λg39=>?_) (λg39=>?_))
   ·refine e9 (Af C) (e9 (Bl C C) (Gr (Ap C C) (Gm C (Bs (d:=43) C (λg43=>?_) (λg43=>?_)))))
    ·refine e9 (Ab fld102_1 C) (e9 (Be (vs:=[_,_]) ty40) ?_)
     refine e9 (Runs.loadBs (vs:=[_,_]) ty40 C (C5 hbq0 Ay) C C) ?_
     refine Et (Cz C C C) (Am call101 C C (RatCmp_ok (⟨Nqq15,Dqq15⟩:Fr) (⟨num,den⟩:Fr) (by first|exact hf|exact hBR.frv hGr) (by first|exact hf|exact hBR.frv hGr))) ?_
     rintro _ _ ⟨_,_,⟨rfl,rfl⟩,rfl,rfl⟩
     refine e9 (Cu C C) (Gr (Ap C C) (Bf (D6 ?_)))
     refine Fb (L':=[(49,_),(12,_),(10,_),(9,_),(8,_)]) (Aa C (Aa C (Aa C (Aa C (Aa C Bq))))) ?_
     refine WR.ite C (λc49=>?_) (λc49=>?_)
     ·refine Ey ?_
      refine Dq (λ_ _ h=>False.elim h) C ?_
      refine Gf fld153_0 C (Gl ef ?_)
      refine Ge0 (B4 (cs:=[_]) (vs:=[_]) (cs':=[_]) ef) ?_
      refine Ge0 (B4 (cs:=[_]) (vs:=[_]) (cs':=[_]) ty4) ?_
      refine Ge0 (B4 (cs:=[_]) (vs:=[_]) (cs':=[_]) ty36) ?_
      refine Bf (D6 ?_)
      refine WR.ret ?_
      exact A3 (V.roundRet (dfrI Dm::e8 b3 [e7 tm] 3::e8 b4 [.bool true] 4::e8 b5 [e7 0] 36::T) Bv (.inr ⟨rfl,(tm),(fi_yes hH hM hq g39 (by have h:=(hBR.holds hGr hf).1 c49;rw [hmg] at h;exact h)),rfl⟩))
     ·refine WR.skip ?_
      exact Ak (E5 (dfrI Dm::e8 b3 [e7 0] 3::e8 b4 [.bool false] 4::e8 b5 [e7 0] 36::T) Bv hr1 (.inl ⟨rfl,(),(fi_next hM hq (by first|exact λh=>absurd (g39.symm.trans h) dc|exact λ_ h=>c49 ((hBR.holds hGr hf).2 (by rw [hmg];exact h)))),rfl⟩))
    ·exact absurd (checkG_ok.2 hGr) g43
   ·refine eb (eb (Gr (Al C C) (Gm C (eb (eb (eb (eb (eb (Gr (Al C C) (Bf (D6 ?_)))))))))))
    refine Fb (L':=[(49,_),(12,_),(10,_),(9,_),(8,_)]) (Aa C (Aa C (Aa C (Aa C (Aa C Bq))))) ?_
    refine WR.no C ?_
    refine WR.skip ?_
    exact Ak (E5 (dfrI Dm::e8 b3 [e7 0] 3::e8 b4 [.bool false] 4::e8 b5 [e7 0] 36::T) Bv hr1 (.inl ⟨rfl,(),(fi_next hM hq (by first|exact λh=>absurd (g39.symm.trans h) dc|exact λ_ h=>c49 ((hBR.holds hGr hf).2 (by rw [hmg];exact h)))),rfl⟩))
  rintro v K ⟨rfl,(⟨_,hp,rfl⟩|⟨tv,hp,rfl⟩)⟩
  ·have hq:(∀i:Nat,i<(allE kd wd mo es).length->¬(reachQ nd kd wd mo es num den) (e_ (allE kd wd mo es) i).tm):=hp
   refine .inl ⟨_,rfl,?_⟩
   show V κ _ _ .normal ([(29,.func (.func 165) #[] #[.pointer (some ⟨qb6,0,none⟩),.pointer (some ⟨qb7,0,none⟩),.pointer (some ⟨qb8,0,none⟩)]),(10,.pointer (some ⟨b5,0,none⟩)),(9,.pointer (some ⟨b4,0,none⟩)),(8,.pointer (some ⟨b3,0,none⟩)),(7,.pointer (some ⟨b2,0,none⟩))]:Env) (dfrI Dm::e8 b3 [e7 0] 3::e8 b4 [.bool false] 4::e8 b5 [e7 0] 36::e8 qb8 [e7 kd,e7 wd,e7 mo] 31::e8 qb7 [.slice ea es.length ec] 28::e8 qb6 [e7 nd] 3::e8 b2 [e7 num,e7 den] 40::e8 b1 [e7 kd,e7 wd,e7 mo] 31::I)
   refine Ak (Ai (Aj (Ge0 (B4 (cs:=[_]) (vs:=[_]) (cs':=[_]) ef) ?_)))
   refine Ge0 (B4 (cs:=[_]) (vs:=[_]) (cs':=[_]) ty4) ?_
   refine Ge0 (B4 (cs:=[_]) (vs:=[_]) (cs':=[_]) ty36) ?_
   refine Ah (Az (V.fit (J:=dfrI Dm::e8 b3 [e7 0] 3::e8 b4 [.bool false] 4::e8 b5 [e7 0] 36::e8 qb8 [e7 kd,e7 wd,e7 mo] 31::e8 qb7 [.slice ea es.length ec] 28::e8 qb6 [e7 nd] 3::e8 b2 [e7 num,e7 den] 40::e8 b1 [e7 kd,e7 wd,e7 mo] 31::I) Bv (V.leave ?_)))
   exact V.retv3 C ef ty4 ty36 C C C mm mm mm I Ay ⟨0,false,rfl,.inr ⟨rfl,rfl,fi_no hq⟩,rfl⟩
  ·have hQ:(FirstYes kd wd mo es (reachQ nd kd wd mo es num den) tv):=hp
   refine .inr ⟨_,_,rfl,?_⟩
   refine Az (A3 (Ar (V.fit (J:=dfrI Dm::e8 b3 [e7 tv] 3::e8 b4 [.bool true] 4::e8 b5 [e7 0] 36::e8 qb8 [e7 kd,e7 wd,e7 mo] 31::e8 qb7 [.slice ea es.length ec] 28::e8 qb6 [e7 nd] 3::e8 b2 [e7 num,e7 den] 40::e8 b1 [e7 kd,e7 wd,e7 mo] 31::I) Bv (V.leave ?_))))
   exact V.retv3 C ef ty4 ty36 C C C mm mm mm I Ay ⟨tv,true,rfl,.inl ⟨rfl,hQ⟩,rfl⟩
end Go.Sl
