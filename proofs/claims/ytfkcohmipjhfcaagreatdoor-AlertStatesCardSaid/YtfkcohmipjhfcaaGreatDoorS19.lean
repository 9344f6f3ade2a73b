/- A part of the proofs of statements of this seat: contracts of functions, and the plain laws that they lean on. No conditions. -/
import Derived.Test.YtfkcohmipjhfcaaGreatDoorS18
set_option linter.unusedVariables false
set_option linter.unusedSimpArgs false
set_option linter.unusedSectionVars false
open Go.Proofs.Tryz (prog)
open List (replicate)
namespace Go.Sl
open Go.Proofs
set_option maxRecDepth 4000
theorem best_yes{sup:List Int}{gone:List Bool}{i:Nat}(h:e_ gone i=false)(h2:bestT sup gone i<0\/e_ sup i<e_ sup (bestT sup gone i)):bestT sup gone (i+1)=(i:Int):=by
 conv=>lhs;unfold bestT
 rw [if_pos ⟨h,h2⟩]
theorem best_no{sup:List Int}{gone:List Bool}{i:Nat}(h:e_ gone i=true\/(¬bestT sup gone i<0/\¬e_ sup i<e_ sup (bestT sup gone i))):bestT sup gone (i+1)=bestT sup gone i:=by
 conv=>lhs;unfold bestT
 rw [if_neg]
 rintro ⟨h1,h2⟩
 rcases h with h|h
 ·rw [h] at h1;cases h1
 ·exact h2.elim h.1 h.2
theorem rows_atG{rs:List (RowG Pt)}{tri:List (List Pt)}(h:rs.map RowG.xs=tri){i:Int}(h0:0<=i)(h1:i<rs.length):(e_ rs i).xs=e_ tri i:=by
 subst h
 rw [at_eq h0 h1,at_eq h0 (by rw [List.length_map];exact h1),List.getElem_map]
theorem low_yes{gone:List Bool}{sup:List Int}{p:Pt}(h1:e_ gone p.u=false)(h2:e_ gone p.v=false):lowT gone sup p=(sup.set p.u.toNat (e_ sup p.u - 1)).set p.v.toNat (e_ (sup.set p.u.toNat (e_ sup p.u - 1)) p.v - 1):=by
 unfold lowT;rw [if_pos ⟨h1,h2⟩]
theorem low_no{gone:List Bool}{sup:List Int}{p:Pt}(h:e_ gone p.u=true\/e_ gone p.v=true):lowT gone sup p=sup:=by
 unfold lowT;rw [if_neg]
 rintro ⟨h1,h2⟩
 rcases h with h|h
 ·rw [h] at h1;cases h1
 ·rw [h] at h2;cases h2
set_option maxHeartbeats 2000000 in
theorem TPeel_ok{κ:Ctx}{I:List Item}{nd:Int}{va:Value}{es:List Pt}(hl:Sl κ I va es)(hG:GrOk nd es)(hb:es.length<=1000000)(hT:TabRd κ I 0 tzCells):ep prog κ 222 [.agg #[e7 nd,va]] I (λr J=>∃a c a' c',r = .tuple #[.slice a (trussO (trisE nd es)).length c,.slice a' (trussN (trisE nd es)).length c']/\J=vc 3 (.slice a (trussO (trisE nd es)).length c) (trussO (trisE nd es))::vc 3 (.slice a' (trussN (trisE nd es)).length c') (trussN (trisE nd es))::I):=by
 have hrng:=hG.rng
 have hTok:=tris_ok hG
 have htes:(trisE nd es).length=es.length:=List.length_map ..
 refine Ce1 Tryz.func222 C C ?_
 refine Ah (Ge1 (Bc (cs:=[_,_]) C C C) λb1=>Ga C (Ga C (Af (Ah (Gl2 ty48 ?_)))))
 refine G.e (Ao call276 C C (Triangles_ok (nd:=nd) (Bh hl) hG om (Cg hT A0))) ?_
 rintro _ _ ⟨_,_,⟨ad2,cp3,rs4,rfl,hrs4,rfl⟩,rfl,rfl⟩
 have htl:rs4.length=(trisE nd es).length:=by rw [←hrs4,List.length_map]
 refine G.fit (J:=vc 65 (.slice ad2 rs4.length cp3) (rs4)::e8 b1 [e7 nd,va] 48::(rgI rs4++I)) (Fit.perm (List.Perm.cons _ (perm_fr (A:=rgI rs4) (L:=[e8 b1 [e7 nd,va] 48]) (T:=I)))) ?_
 show G prog κ _ _ _ _ ([(16,.slice ad2 rs4.length cp3),(15,.agg #[e7 nd,va]),(3,.slice none 0 0),(2,.slice none 0 0),(1,.pointer (some ⟨b1,0,none⟩)),(0,.agg #[e7 nd,va])]:Env) (vc 65 (.slice ad2 rs4.length cp3) (rs4)::e8 b1 [e7 nd,va] 48::(rgI rs4++I))
 refine Ga C (Af (Ah (Gm C (Gr (Bm Dn C) (Ga C (Af (Ah (Gm C (Ge2 (Cj (α:=Int) (n:=rs4.length) Ac ef C C C om om dc C) λad5 cp6=>?_)))))))))
 refine Ga C (Af (Au (Ah (Gm C (Gr (Bm Dn C) (Gm C (Af (Aq (S7 23 22 21 6 5 4 2 C C C C C C C) (A4 (Bu (σ:=Nat×(List Int)) (λs=>([(2,.slice none 0 0),(4,.slice ad2 rs4.length cp3),(5,e7 ((rs4.length:Nat):Int)),(6,.slice ad5 (replicate rs4.length (default:Int)).length cp6),(21,.slice ad2 rs4.length cp3),(22,e7 ((rs4.length:Nat):Int)),(23,e7 ((s.1:Nat):Int))]:Env)) (λs=>vc 3 (.slice ad5 (replicate rs4.length (default:Int)).length cp6) (s.2)::vc 65 (.slice ad2 rs4.length cp3) (rs4)::e8 b1 [e7 nd,va] 48::(rgI rs4++I)) (λs=>(s.1<=rs4.length)/\(s.2.length=rs4.length)/\(∀i:Nat,i<s.1->e_ s.2 i=(((e_ rs4 i).xs.length:Nat):Int))) (λs=>rs4.length - s.1) (0,replicate rs4.length (default:Int)) (show ((0:Nat)<=rs4.length)/\((replicate rs4.length (default:Int):List Int).length=rs4.length)/\(∀i:Nat,i<(0:Nat)->e_ (replicate rs4.length (default:Int):List Int) (i:Int)=(((e_ rs4 i).xs.length:Nat):Int)) from ⟨om,List.length_replicate,(λi h=>by omega)⟩) (Aa C (Aa C (Aa C (Aa C (Aa C (Aa C (Aa (C4 C (by first|omega|rfl|((try dsimp only);first|exact best_yes (by simpa using g50) (by first|exact .inl g53|exact .inr c64)|exact (best_yes (by simpa using g50) (by first|exact .inl g53|exact .inr c64)).symm|exact best_no (by first|(left;simpa using g50)|exact .inr ⟨g53,c64⟩)|exact (best_no (by first|(left;simpa using g50)|exact .inr ⟨g53,c64⟩)).symm))) Bj))))))) (show Fit κ _ (vc 3 (.slice ad5 (replicate rs4.length (default:Int)).length cp6) ((replicate rs4.length (default:Int)))::vc 65 (.slice ad2 rs4.length cp3) (rs4)::e8 b1 [e7 nd,va] 48::(rgI rs4++I)) from A5) ?_))))))))))
 rintro ⟨k,sup⟩ hp
 dsimp only at hp ⊢
 obtain ⟨hk,hsl,hsv⟩:=hp
 refine Ah (Gr (A9 C C) (Af (Au (A6 C (λc24=>?_) (λc24=>?_)))))
 ·refine Ay (Aj (Au (A4 (Ah (Gm C (Gr (A3 (α:=(RowG Pt)) (xs:=rs4) Dn ty65 C C Bg om oo) (Gr (C8 (α:=(RowG Pt)) (xs:=rs4) (u:= .slice (e_ rs4 k).a (e_ rs4 k).xs.length (e_ rs4 k).c) ty65 C Bg om oo C) (Ga C (Ga C (Af (Ax (Gm C (Gm C (Gm C (Gr (Bm C3 C) (Gr (A3 (α:=Int) (xs:=sup) Ac ef C C Bg om oo) (Ge0 (Cs (α:=Int) (xs:=sup) (e:=3) (new:=(((e_ rs4 k).xs.length:Nat):Int)) ef C C C om oo am) ?_)))))))))))))))))
  exact Bd (Ak (Aj (Aq (S7 2 4 5 6 21 22 23 C C C C C C C) (Ax (Gr (Rad C C) (Gm C (Bd (B2 ((k+1),(List.set sup ((k:Int)).toNat ((((e_ rs4 k).xs.length:Nat):Int)))) (by dsimp only;exact ⟨om,(by rw [List.length_set];exact hsl),(λi h=>by rw [Da _ _ _ _ om om om];by_cases e:i=k;(· subst e;rw [if_pos rfl]);(· rw [if_neg om];exact hsv i om))⟩) (hL:=(Aa C (Aa C (Aa C (Aa C (Aa C (Aa C (Aa (C4 C (by first|omega|rfl|((try dsimp only);first|exact best_yes (by simpa using g50) (by first|exact .inl g53|exact .inr c64)|exact (best_yes (by simpa using g50) (by first|exact .inl g53|exact .inr c64)).symm|exact best_no (by first|(left;simpa using g50)|exact .inr ⟨g53,c64⟩)|exact (best_no (by first|(left;simpa using g50)|exact .inr ⟨g53,c64⟩)).symm))) Bj))))))))))))))))
 ·refine Bs (Ap (Ap (A7 (Aj (Ah (Gm C ?_))))))
  have hsup:sup=(startT (trisE nd es)).sup:=by refine ext_at (by rw [hsl,htl];exact (List.length_map ..).symm) (λi hi=>?_);rw [hsv i om,rows_atG hrs4 om om];show _=e_ ((trisE nd es).map λl=>(l.length:Int)) (i:Int);rw [Dx _ _ (show i<(trisE nd es).length by omega),Dx _ _ (by rw [List.length_map];omega),List.getElem_map]
  refine Ge2 (Cj (α:=Bool) (n:=rs4.length) Bw ty4 C C C om om dc C) λad7 cp8=>?_
  refine Ga C (Af (Ah (Gm C (Ge2 (Cj (α:=Int) (n:=rs4.length) Ac ef C C C om om dc C) λad9 cp10=>?_))))
  refine Ga C (Af (Aq (S6 3 9 2 4 5 6 C C C C C C) (Ah (Ga C (Af (Au (Ah (Gm C (Gm C (Af (A4 (Bu (σ:=Nat×TrS×(Option Addr)×Nat) (λs=>([(2,.slice s.2.2.1 s.2.1.ord.length s.2.2.2),(3,.slice ad9 (replicate rs4.length (default:Int)).length cp10),(4,.slice ad2 rs4.length cp3),(5,e7 ((rs4.length:Nat):Int)),(6,.slice ad5 (replicate rs4.length (default:Int)).length cp6),(9,.slice ad7 (replicate rs4.length (default:Bool)).length cp8),(10,e7 (s.2.1.k)),(38,e7 ((rs4.length:Nat):Int)),(39,e7 ((s.1:Nat):Int))]:Env)) (λs=>vc 3 (.slice s.2.2.1 s.2.1.ord.length s.2.2.2) (s.2.1.ord)::vc 3 (.slice ad9 (replicate rs4.length (default:Int)).length cp10) (s.2.1.num)::vc 4 (.slice ad7 (replicate rs4.length (default:Bool)).length cp8) (s.2.1.gone)::vc 3 (.slice ad5 (replicate rs4.length (default:Int)).length cp6) (s.2.1.sup)::vc 65 (.slice ad2 rs4.length cp3) (rs4)::e8 b1 [e7 nd,va] 48::(rgI rs4++I)) (λs=>(s.1<=rs4.length)/\(s.2.1=runTr (trisE nd es) s.1)/\(TrOk (nd.toNat - 1) (trisE nd es).length s.1 s.2.1)) (λs=>rs4.length - s.1) (0,(startT (trisE nd es)),none,0) (show ((0:Nat)<=rs4.length)/\(((startT (trisE nd es)):TrS)=runTr (trisE nd es) (0:Nat))/\(TrOk (nd.toNat - 1) (trisE nd es).length (0:Nat) ((startT (trisE nd es)):TrS)) from ⟨om,rfl,(TrOk.start hTok)⟩) (Aa (Cr C (by first|rfl|simp)) (Aa C (Aa C (Aa C (Aa C (Aa C (Aa (C4 C (by first|omega|rfl|((try dsimp only);first|exact best_yes (by simpa using g50) (by first|exact .inl g53|exact .inr c64)|exact (best_yes (by simpa using g50) (by first|exact .inl g53|exact .inr c64)).symm|exact best_no (by first|(left;simpa using g50)|exact .inr ⟨g53,c64⟩)|exact (best_no (by first|(left;simpa using g50)|exact .inr ⟨g53,c64⟩)).symm))) (Aa C (Aa (C4 C (by first|omega|rfl|((try dsimp only);first|exact best_yes (by simpa using g50) (by first|exact .inl g53|exact .inr c64)|exact (best_yes (by simpa using g50) (by first|exact .inl g53|exact .inr c64)).symm|exact best_no (by first|(left;simpa using g50)|exact .inr ⟨g53,c64⟩)|exact (best_no (by first|(left;simpa using g50)|exact .inr ⟨g53,c64⟩)).symm))) Bj))))))))) (show Fit κ _ (vc 3 (.slice none ((startT (trisE nd es))).ord.length 0) (((startT (trisE nd es))).ord)::vc 3 (.slice ad9 (replicate rs4.length (default:Int)).length cp10) (((startT (trisE nd es))).num)::vc 4 (.slice ad7 (replicate rs4.length (default:Bool)).length cp8) (((startT (trisE nd es))).gone)::vc 3 (.slice ad5 (replicate rs4.length (default:Int)).length cp6) (((startT (trisE nd es))).sup)::vc 65 (.slice ad2 rs4.length cp3) (rs4)::e8 b1 [e7 nd,va] 48::(rgI rs4++I)) from (by rw [←hsup];exact Cc (Bt (α:=Int) _ _) (by rw [htl];exact B4))) ?_))))))))))))
  rintro ⟨j,tr,ao,co⟩ hp
  dsimp only at hp ⊢
  obtain ⟨hj,htr,hok⟩:=hp
  have hsn:=hok.slen
  have hgn:=hok.glen
  have hnn:=hok.nlen
  have hon:=hok.olen
  have hkb:=hok.k
  have hmj:2*(((nd.toNat - 1:Nat)):Int)*(j:Int)<=126*(j:Int):=Int.mul_le_mul_of_nonneg_right om om
  refine Ah (Gr (A9 C C) (Af (Au (A6 C (λc40=>?_) (λc40=>?_)))))
  ·refine Ay (Aj (Au (A4 (Ah (Ga C (Af (Au (Ah (Gm C (Gm C (Af (A4 (Bu (σ:=Nat) (λs=>([(2,.slice ao tr.ord.length co),(3,.slice ad9 (replicate rs4.length (default:Int)).length cp10),(4,.slice ad2 rs4.length cp3),(5,e7 ((rs4.length:Nat):Int)),(6,.slice ad5 (replicate rs4.length (default:Int)).length cp6),(9,.slice ad7 (replicate rs4.length (default:Bool)).length cp8),(10,e7 (tr.k)),(11,e7 (bestT tr.sup tr.gone s)),(38,e7 ((rs4.length:Nat):Int)),(39,e7 ((j:Int))),(41,e7 ((rs4.length:Nat):Int)),(42,e7 ((s:Nat):Int))]:Env)) (λs=>vc 3 (.slice ao tr.ord.length co) (tr.ord)::vc 3 (.slice ad9 (replicate rs4.length (default:Int)).length cp10) (tr.num)::vc 4 (.slice ad7 (replicate rs4.length (default:Bool)).length cp8) (tr.gone)::vc 3 (.slice ad5 (replicate rs4.length (default:Int)).length cp6) (tr.sup)::vc 65 (.slice ad2 rs4.length cp3) (rs4)::e8 b1 [e7 nd,va] 48::(rgI rs4++I)) (λs=>(s<=rs4.length)) (λs=>rs4.length - s) 0 (show ((0:Nat)<=rs4.length) from om) (Aa C (Aa C (Aa C (Aa C (Aa C (Aa C (Aa C (Aa (C4 C (by first|omega|rfl|((try dsimp only);first|exact best_yes (by simpa using g50) (by first|exact .inl g53|exact .inr c64)|exact (best_yes (by simpa using g50) (by first|exact .inl g53|exact .inr c64)).symm|exact best_no (by first|(left;simpa using g50)|exact .inr ⟨g53,c64⟩)|exact (best_no (by first|(left;simpa using g50)|exact .inr ⟨g53,c64⟩)).symm))) (Aa C (Aa C (Aa C (Aa (C4 C (by first|omega|rfl|((try dsimp only);first|exact best_yes (by simpa using g50) (by first|exact .inl g53|exact .inr c64)|exact (best_yes (by simpa using g50) (by first|exact .inl g53|exact .inr c64)).symm|exact best_no (by first|(left;simpa using g50)|exact .inr ⟨g53,c64⟩)|exact (best_no (by first|(left;simpa using g50)|exact .inr ⟨g53,c64⟩)).symm))) Bj)))))))))))) (show Fit κ _ (vc 3 (.slice ao tr.ord.length co) (tr.ord)::vc 3 (.slice ad9 (replicate rs4.length (default:Int)).length cp10) (tr.num)::vc 4 (.slice ad7 (replicate rs4.length (default:Bool)).length cp8) (tr.gone)::vc 3 (.slice ad5 (replicate rs4.length (default:Int)).length cp6) (tr.sup)::vc 65 (.slice ad2 rs4.length cp3) (rs4)::e8 b1 [e7 nd,va] 48::(rgI rs4++I)) from A5) ?_)))))))))))))
   rintro i2 hp
   have hi2:=hp
   have hbl:=bestT_lt tr.sup tr.gone i2
   refine Ah (Gr (A9 C C) (Af (Au (A6 C (λc43=>?_) (λc43=>?_)))))
   ·refine Ay (Aj (Au (A4 (Ah (Gm C (Ga C (Af (Aq (S13 12 2 3 4 5 6 9 10 11 38 39 41 42 C C C C C C C C C C C C C) (Au (Bl mixed (Br (vc 3 (.slice ao tr.ord.length co) (tr.ord)::vc 3 (.slice ad9 (replicate rs4.length (default:Int)).length cp10) (tr.num)::vc 4 (.slice ad7 (replicate rs4.length (default:Bool)).length cp8) (tr.gone)::vc 3 (.slice ad5 (replicate rs4.length (default:Int)).length cp6) (tr.sup)::vc 65 (.slice ad2 rs4.length cp3) (rs4)::e8 b1 [e7 nd,va] 48::(rgI rs4++I)) 20 (Dr 0 C (Ad C) (Dr 1 C (Ad C) (Dr 2 C (A3 (α:=Bool) (xs:=tr.gone) Bw ty4 C C Bg om oo) (Dr 3 C (Ef (xs:=tr.gone) ty4 C Bg om oo) (Dr 4 C (Cb C) (Dr 5 C (Ad C) (D.splitb (d:=50) C (λg50=>?_) (λg50=>?_)))))))))))))))))))
    ·refine Dro 6 C (Ad C) (Dro 7 C (A9 C C) (Dro 8 C (Ad C) (C9 (d:=53) C (λg53=>?_) (λg53=>?_))))
     ·exact Dpo 9 C (Dpo 10 C (Dpo 11 C (Dpo 12 C (Dpo 13 C (Dpo 14 C (Dpo 15 C (Dpo 16 C (Dpo 17 C (Dro 18 C (Am C C) (Dr 19 C (Am C C) (Dz (Aj (Aq (S14 64 12 2 3 4 5 6 9 10 11 38 39 41 42 C C C C C C C C C C C C C C) (B7 C (Ax (Gm C (Ga C (Bd (Ak (Aj (Aq (S12 11 2 3 4 5 6 9 10 38 39 41 42 C C C C C C C C C C C C) (Ax (Gr (Rad C C) (Gm C (Bd (B2 ((i2+1)) om (hL:=(Aa C (Aa C (Aa C (Aa C (Aa C (Aa C (Aa C (Aa (C4 C (by first|omega|rfl|((try dsimp only);first|exact best_yes (by simpa using g50) (by first|exact .inl g53|exact .inr c64)|exact (best_yes (by simpa using g50) (by first|exact .inl g53|exact .inr c64)).symm|exact best_no (by first|(left;simpa using g50)|exact .inr ⟨g53,c64⟩)|exact (best_no (by first|(left;simpa using g50)|exact .inr ⟨g53,c64⟩)).symm))) (Aa C (Aa C (Aa C (Aa (C4 C (by first|omega|rfl|((try dsimp only);first|exact best_yes (by simpa using g50) (by first|exact .inl g53|exact .inr c64)|exact (best_yes (by simpa using g50) (by first|exact .inl g53|exact .inr c64)).symm|exact best_no (by first|(left;simpa using g50)|exact .inr ⟨g53,c64⟩)|exact (best_no (by first|(left;simpa using g50)|exact .inr ⟨g53,c64⟩)).symm))) Bj)))))))))))))))))))))))))))))))))))))))
     ·refine Dro 9 C (Ad C) (Dro 10 C (Ad C) (Dro 11 C (A3 (α:=Int) (xs:=tr.sup) Ac ef C C Bg om oo) (Dro 12 C (Bz (xs:=tr.sup) ef C Bg om oo) (Dro 13 C (Ad C) (Dro 14 C (Ad C) (Dro 15 C (A3 (α:=Int) (xs:=tr.sup) Ac ef C C Bg om oo) (Dro 16 C (Bz (xs:=tr.sup) ef C Bg om oo) (Dro 17 C (A9 C C) (Dro 18 C (Al C C) (Dr 19 C (Am C C) (Dz (Aj (Aq (S14 64 12 2 3 4 5 6 9 10 11 38 39 41 42 C C C C C C C C C C C C C C) (A6 C (λc64=>?_) (λc64=>?_)))))))))))))))
      ·exact Ax (Gm C (Ga C (Bd (Ak (Aj (Aq (S12 11 2 3 4 5 6 9 10 38 39 41 42 C C C C C C C C C C C C) (Ax (Gr (Rad C C) (Gm C (Bd (B2 ((i2+1)) om (hL:=(Aa C (Aa C (Aa C (Aa C (Aa C (Aa C (Aa C (Aa (C4 C (by first|omega|rfl|((try dsimp only);first|exact best_yes (by simpa using g50) (by first|exact .inl g53|exact .inr c64)|exact (best_yes (by simpa using g50) (by first|exact .inl g53|exact .inr c64)).symm|exact best_no (by first|(left;simpa using g50)|exact .inr ⟨g53,c64⟩)|exact (best_no (by first|(left;simpa using g50)|exact .inr ⟨g53,c64⟩)).symm))) (Aa C (Aa C (Aa C (Aa (C4 C (by first|omega|rfl|((try dsimp only);first|exact best_yes (by simpa using g50) (by first|exact .inl g53|exact .inr c64)|exact (best_yes (by simpa using g50) (by first|exact .inl g53|exact .inr c64)).symm|exact best_no (by first|(left;simpa using g50)|exact .inr ⟨g53,c64⟩)|exact (best_no (by first|(left;simpa using g50)|exact .inr ⟨g53,c64⟩)).symm))) Bj))))))))))))))))))))))))
      ·exact Ay (Ak (Aj (Aq (S12 2 3 4 5 6 9 10 11 38 39 41 42 C C C C C C C C C C C C) (Ax (Gr (Rad C C) (Gm C (Bd (B2 ((i2+1)) om (hL:=(Aa C (Aa C (Aa C (Aa C (Aa C (Aa C (Aa C (Aa (C4 C (by first|omega|rfl|((try dsimp only);first|exact best_yes (by simpa using g50) (by first|exact .inl g53|exact .inr c64)|exact (best_yes (by simpa using g50) (by first|exact .inl g53|exact .inr c64)).symm|exact best_no (by first|(left;simpa using g50)|exact .inr ⟨g53,c64⟩)|exact (best_no (by first|(left;simpa using g50)|exact .inr ⟨g53,c64⟩)).symm))) (Aa C (Aa C (Aa C (Aa (C4 C (by first|omega|rfl|((try dsimp only);first|exact best_yes (by simpa using g50) (by first|exact .inl g53|exact .inr c64)|exact (best_yes (by simpa using g50) (by first|exact .inl g53|exact .inr c64)).symm|exact best_no (by first|(left;simpa using g50)|exact .inr ⟨g53,c64⟩)|exact (best_no (by first|(left;simpa using g50)|exact .inr ⟨g53,c64⟩)).symm))) Bj)))))))))))))))))))))
    ·exact Dpo 6 C (Dpo 7 C (Dpo 8 C (Dpu 9 C (Dpu 10 C (Dpu 11 C (Dpu 12 C (Dpu 13 C (Dpu 14 C (Dpu 15 C (Dpu 16 C (Dpu 17 C (Dpo 18 C (Dr 19 C (Al C C) (Dz (Aj (Aq (S14 64 12 2 3 4 5 6 9 10 11 38 39 41 42 C C C C C C C C C C C C C C) (C2 C (Ay (Ak (Aj (Aq (S12 2 3 4 5 6 9 10 11 38 39 41 42 C C C C C C C C C C C C) (Ax (Gr (Rad C C) (Gm C (Bd (B2 ((i2+1)) om (hL:=(Aa C (Aa C (Aa C (Aa C (Aa C (Aa C (Aa C (Aa (C4 C (by first|omega|rfl|((try dsimp only);first|exact best_yes (by simpa using g50) (by first|exact .inl g53|exact .inr c64)|exact (best_yes (by simpa using g50) (by first|exact .inl g53|exact .inr c64)).symm|exact best_no (by first|(left;simpa using g50)|exact .inr ⟨g53,c64⟩)|exact (best_no (by first|(left;simpa using g50)|exact .inr ⟨g53,c64⟩)).symm))) (Aa C (Aa C (Aa C (Aa (C4 C (by first|omega|rfl|((try dsimp only);first|exact best_yes (by simpa using g50) (by first|exact .inl g53|exact .inr c64)|exact (best_yes (by simpa using g50) (by first|exact .inl g53|exact .inr c64)).symm|exact best_no (by first|(left;simpa using g50)|exact .inr ⟨g53,c64⟩)|exact (best_no (by first|(left;simpa using g50)|exact .inr ⟨g53,c64⟩)).symm))) Bj)))))))))))))))))))))))))))))))))))))))
   ·refine Bs (Ap (Ap (A7 (Aj (Ah (Gm C ?_))))))
    obtain ⟨b,hbI⟩:∃b,bestT tr.sup tr.gone i2=b:=⟨_,rfl⟩
    have hbE:bestT tr.sup tr.gone (trisE nd es).length=b:=by rw [←hbI,show i2=(trisE nd es).length by omega]
    have hb0:=hok.best om
    rw [hbE] at hb0
    rw [hbI]
    have hsb:=hok.sup _ (Ca (xs:=tr.sup) (i:=b) hb0.1 om)
    refine Gm C (Gm C (Gr (A3 (α:=Int) (xs:=tr.sup) Ac ef C C Bg om oo) (Gr (Bz (xs:=tr.sup) ef C Bg om oo) (Gr (D2 C C) ?_))))
    have hmx:(if tr.k<(e_ tr.sup b) then (e_ tr.sup b) else tr.k)=(max tr.k (e_ tr.sup b)):=by split<;>omega
    rw [hmx]
    refine Ga C (Af (Aq (S10 10 2 3 4 5 6 9 11 38 39 C C C C C C C C C C) (Ah (Gm C (Gm C (Gm C (Gm C (Gm C (Gr (A3 (α:=Int) (xs:=tr.num) Ac ef C C Bg om oo) (Ge0 (Cs (α:=Int) (xs:=tr.num) (e:=3) (new:=(max tr.k (e_ tr.sup b))) ef C C C om oo am) ?_))))))))))
    refine Gr (A3 (α:=Bool) (xs:=tr.gone) Bw ty4 C C Bg om oo) (Ge0 (Cs (α:=Bool) (xs:=tr.gone) (e:=4) (new:=true) ty4 C C C om oo am) ?_)
    refine Af (Aq (S10 10 2 3 4 5 6 9 11 38 39 C C C C C C C C C C) (Ah (Gm C (Gm C (Ge1 (B0 (α:=Int) (cs:=[_]) (xs:=[b]) Ac ef C C dc dc C C C C) λad11=>?_)))))
    refine Ge2 (B1 (α:=Int) (e:=3) (xs:=tr.ord) (ys:=([b]:List Int)) Ac ef C C C mm Bg lcn dc C (λ_ _=>am)) λad12 cp13=>?_
    refine Ga C (Af (Aq (S10 2 10 3 4 5 6 9 11 38 39 C C C C C C C C C C) (Ah (Gm C (Gm C (Gr (A3 (α:=(RowG Pt)) (xs:=rs4) Dn ty65 C C Bg om oo) (Gr (C8 (α:=(RowG Pt)) (xs:=rs4) (u:= .slice (e_ rs4 b).a (e_ rs4 b).xs.length (e_ rs4 b).c) ty65 C Bg om oo C) (Gr (Bm C3 C) (Gm C (Af (Aq (S12 89 88 87 2 10 3 4 5 6 9 38 39 C C C C C C C C C C C C) (A4 (Bu (σ:=Nat×(List Int)) (λs=>([(2,.slice ad12 (tr.ord++([b]:List Int)).length cp13),(3,.slice ad9 (replicate rs4.length (default:Int)).length cp10),(4,.slice ad2 rs4.length cp3),(5,e7 ((rs4.length:Nat):Int)),(6,.slice ad5 (replicate rs4.length (default:Int)).length cp6),(9,.slice ad7 (replicate rs4.length (default:Bool)).length cp8),(10,e7 ((max tr.k (e_ tr.sup b)))),(38,e7 ((rs4.length:Nat):Int)),(39,e7 ((j:Nat):Int)),(87,.slice (e_ rs4 b).a (e_ rs4 b).xs.length (e_ rs4 b).c),(88,e7 ((((e_ rs4 b).xs.length:Nat):Int))),(89,e7 ((s.1:Nat):Int))]:Env)) (λs=>vc 3 (.slice ad11 1 1) (([b]:List Int))::vc 3 (.slice ad12 (tr.ord++([b]:List Int)).length cp13) (tr.ord++([b]:List Int))::vc 3 (.slice ad9 (replicate rs4.length (default:Int)).length cp10) (List.set tr.num (b).toNat ((max tr.k (e_ tr.sup b))))::vc 4 (.slice ad7 (replicate rs4.length (default:Bool)).length cp8) (List.set tr.gone (b).toNat (true))::vc 3 (.slice ad5 (replicate rs4.length (default:Int)).length cp6) (s.2)::vc 65 (.slice ad2 rs4.length cp3) (rs4)::e8 b1 [e7 nd,va] 48::(rgI rs4++I)) (λs=>(s.1<=(e_ rs4 b).xs.length)/\(s.2=((e_ rs4 b).xs.take s.1).foldl (lowT (List.set tr.gone (b).toNat (true))) tr.sup)/\(s.2.length=(trisE nd es).length)/\(∀x∈s.2, -(126*((j:Nat):Int)) - 2*((s.1:Nat):Int)<=x/\x<=64)) (λs=>(e_ rs4 b).xs.length - s.1) (0,tr.sup) (show ((0:Nat)<=(e_ rs4 b).xs.length)/\((tr.sup:List Int)=((e_ rs4 b).xs.take (0:Nat)).foldl (lowT (List.set tr.gone (b).toNat (true))) tr.sup)/\((tr.sup:List Int).length=(trisE nd es).length)/\(∀x∈(tr.sup:List Int), -(126*((j:Nat):Int)) - 2*(((0:Nat):Nat):Int)<=x/\x<=64) from ⟨om,rfl,hsn,(λx hx=>by have:=hok.sup x hx;omega)⟩) (Aa C (Aa C (Aa C (Aa C (Aa C (Aa C (Aa C (Aa C (Aa C (Aa C (Aa C (Aa (C4 C (by first|omega|rfl|((try dsimp only);first|exact best_yes (by simpa using g50) (by first|exact .inl g53|exact .inr c64)|exact (best_yes (by simpa using g50) (by first|exact .inl g53|exact .inr c64)).symm|exact best_no (by first|(left;simpa using g50)|exact .inr ⟨g53,c64⟩)|exact (best_no (by first|(left;simpa using g50)|exact .inr ⟨g53,c64⟩)).symm))) Bj)))))))))))) (show Fit κ _ (vc 3 (.slice ad11 1 1) (([b]:List Int))::vc 3 (.slice ad12 (tr.ord++([b]:List Int)).length cp13) (tr.ord++([b]:List Int))::vc 3 (.slice ad9 (replicate rs4.length (default:Int)).length cp10) (List.set tr.num (b).toNat ((max tr.k (e_ tr.sup b))))::vc 4 (.slice ad7 (replicate rs4.length (default:Bool)).length cp8) (List.set tr.gone (b).toNat (true))::vc 3 (.slice ad5 (replicate rs4.length (default:Int)).length cp6) ((tr.sup))::vc 65 (.slice ad2 rs4.length cp3) (rs4)::e8 b1 [e7 nd,va] 48::(rgI rs4++I)) from A5) ?_)))))))))))))
    rintro ⟨q,sup1⟩ hp
    dsimp only at hp ⊢
    obtain ⟨hq,hs1,hs1l,hsr⟩:=hp
    have hrb:(e_ rs4 b).xs∈(trisE nd es):=by rw [rows_atG hrs4 hb0.1 om];exact Ca hb0.1 hb0.2.1
    have hrl:=hTok.len _ hrb
    have hgl2:(List.set tr.gone (b).toNat (true)).length=(trisE nd es).length:=by rw [List.length_set];exact hgn
    have hpr:q<(e_ rs4 b).xs.length->0<=(e_ (e_ rs4 b).xs (q:Int)).u/\(e_ (e_ rs4 b).xs (q:Int)).u<(trisE nd es).length/\0<=(e_ (e_ rs4 b).xs (q:Int)).v/\(e_ (e_ rs4 b).xs (q:Int)).v<(trisE nd es).length:=λh=>hTok.rng _ hrb _ (Ca om om)
    refine Ah (Gr (A9 C C) (Af (Au (A6 C (λc90=>?_) (λc90=>?_)))))
    ·refine Ay (Aj (Au (A4 (Ah (Gr (A3 (α:=Pt) (xs:=(e_ rs4 b).xs) C3 ty64 C C (Eq (by repeat (first|exact rgI_mem (rs:=rs4) (i:=b) om om|apply List.mem_cons_of_mem))) om oo) (Gr (Bp (α:=Pt) (xs:=(e_ rs4 b).xs) ty64 C (Eq (by repeat (first|exact rgI_mem (rs:=rs4) (i:=b) om om|apply List.mem_cons_of_mem))) om oo) ?_))))))
     have hpq:=hpr om
     have hqu:=hsr _ (Ca (xs:=sup1) (i:=(e_ (e_ rs4 b).xs (q:Int)).u) om om)
     refine Ge1 (A8 ty64 C) λb14=>Ge0 (Cd ty64) ?_
     refine Af (Aq (S13 14 2 3 4 5 6 9 10 38 39 87 88 89 C C C C C C C C C C C C C) (Ah (Gm C (Gr (Cl Ce ty2 C C om om) (Gl ef ?_)))))
     refine Gr (A3 (α:=Bool) (xs:=List.set tr.gone (b).toNat (true)) Bw ty4 C C Bg om oo) (Gr (Ef (xs:=List.set tr.gone (b).toNat (true)) ty4 C Bg om oo) (Gr (Cb C) (Gm C (G.splitb (d:=99) C (λg99=>?_) (λg99=>?_)))))
     ·refine e9 (Ad C) (e9 (Cl Ce ty2 C C om om) (e9 (As ef) ?_))
      refine e9 (A3 (α:=Bool) (xs:=List.set tr.gone (b).toNat (true)) Bw ty4 C C Bg om oo) (e9 (Ef (xs:=List.set tr.gone (b).toNat (true)) ty4 C Bg om oo) (e9 (Cb C) (Gr (Am C C) (Af (Aq (S14 106 14 2 3 4 5 6 9 10 38 39 87 88 89 C C C C C C C C C C C C C C) (Ei C (λc106=>?_) (λc106=>?_)))))))
      ·refine Ah (Gm C (Gr (Cl Ce ty2 C C om om) (Gl ef ?_)))
       refine Gr (A3 (α:=Int) (xs:=sup1) Ac ef C C Bg om oo) (Gr (Bz (xs:=sup1) ef C Bg om oo) (Gr (Rsu C C) (Gr (A3 (α:=Int) (xs:=sup1) Ac ef C C Bg om oo) (Ge0 (Cs (α:=Int) (xs:=sup1) (e:=3) (new:=(e_ sup1 ((e_ ((e_ rs4 b).xs) (q:Int)).u)) - 1) ef C C C om oo am) ?_))))
       have hqv : -(126*(j:Int)) - 2*(q:Int) - 1<=e_ (List.set sup1 ((e_ ((e_ rs4 b).xs) (q:Int)).u).toNat ((e_ sup1 ((e_ ((e_ rs4 b).xs) (q:Int)).u)) - 1)) (e_ (e_ rs4 b).xs (q:Int)).v/\e_ (List.set sup1 ((e_ ((e_ rs4 b).xs) (q:Int)).u).toNat ((e_ sup1 ((e_ ((e_ rs4 b).xs) (q:Int)).u)) - 1)) (e_ (e_ rs4 b).xs (q:Int)).v<=64:=by rw [Da _ _ _ _ om om om];have:=hsr _ (Ca (xs:=sup1) (i:=(e_ (e_ rs4 b).xs (q:Int)).v) om om);split<;>omega
       refine Af (Aq (S13 14 2 3 4 5 6 9 10 38 39 87 88 89 C C C C C C C C C C C C C) (Ax (Gm C (Gr (Cl Ce ty2 C C om om) (Gl ef ?_)))))
       refine Gr (A3 (α:=Int) (xs:=List.set sup1 ((e_ ((e_ rs4 b).xs) (q:Int)).u).toNat ((e_ sup1 ((e_ ((e_ rs4 b).xs) (q:Int)).u)) - 1)) Ac ef C C Bg om oo) (Gr (Bz (xs:=List.set sup1 ((e_ ((e_ rs4 b).xs) (q:Int)).u).toNat ((e_ sup1 ((e_ ((e_ rs4 b).xs) (q:Int)).u)) - 1)) ef C Bg om oo) (Gr (Rsu C C) (Gr (A3 (α:=Int) (xs:=List.set sup1 ((e_ ((e_ rs4 b).xs) (q:Int)).u).toNat ((e_ sup1 ((e_ ((e_ rs4 b).xs) (q:Int)).u)) - 1)) Ac ef C C Bg om oo) (Ge0 (Cs (α:=Int) (xs:=List.set sup1 ((e_ ((e_ rs4 b).xs) (q:Int)).u).toNat ((e_ sup1 ((e_ ((e_ rs4 b).xs) (q:Int)).u)) - 1)) (e:=3) (new:=(e_ (List.set sup1 ((e_ ((e_ rs4 b).xs) (q:Int)).u).toNat ((e_ sup1 ((e_ ((e_ rs4 b).xs) (q:Int)).u)) - 1)) ((e_ ((e_ rs4 b).xs) (q:Int)).v)) - 1) ef C C C om oo am) ?_))))
       refine Bd (Ak (Aj (Aq (S12 2 3 4 5 6 9 10 38 39 87 88 89 C C C C C C C C C C C C) (Ax (Gr (Rad C C) (Gm C (Bd ?_)))))))
       have hlow:((e_ rs4 b).xs.take (q+1)).foldl (lowT (List.set tr.gone (b).toNat (true))) tr.sup=lowT (List.set tr.gone (b).toNat (true)) sup1 (e_ (e_ rs4 b).xs (q:Int)):=by rw [Cu _ q om,List.foldl_append,←hs1];rfl
       have hlr:=lowT_rng (gone:=(List.set tr.gone (b).toNat (true))) (p:=(e_ (e_ rs4 b).xs (q:Int))) (by have:=hpr om;omega) hsr
       have hll:=lowT_len (List.set tr.gone (b).toNat (true)) sup1 (e_ (e_ rs4 b).xs (q:Int))
       exact B2 ((q+1),(List.set (List.set sup1 ((e_ ((e_ rs4 b).xs) (q:Int)).u).toNat ((e_ sup1 ((e_ ((e_ rs4 b).xs) (q:Int)).u)) - 1)) ((e_ ((e_ rs4 b).xs) (q:Int)).v).toNat ((e_ (List.set sup1 ((e_ ((e_ rs4 b).xs) (q:Int)).u).toNat ((e_ sup1 ((e_ ((e_ rs4 b).xs) (q:Int)).u)) - 1)) ((e_ ((e_ rs4 b).xs) (q:Int)).v)) - 1))) (by dsimp only;exact ⟨om,(by rw [hlow];first|exact (low_yes (by simpa using g99) (by simpa using c106)).symm|exact (low_no (by first|(left;simpa using g99)|(right;simpa using c106))).symm),(by first|exact hs1l|(simp only [List.length_set];exact hs1l)),(by first|(rw [low_yes (by simpa using g99) (by simpa using c106)] at hlr;exact λx hx=>by have:=hlr x hx;push_cast;omega)|(rw [low_no (by first|(left;simpa using g99)|(right;simpa using c106))] at hlr;exact λx hx=>by have:=hlr x hx;push_cast;omega))⟩) (hL:=(Aa C (Aa C (Aa C (Aa C (Aa C (Aa C (Aa C (Aa C (Aa C (Aa C (Aa C (Aa (C4 C (by first|omega|rfl|((try dsimp only);first|exact best_yes (by simpa using g50) (by first|exact .inl g53|exact .inr c64)|exact (best_yes (by simpa using g50) (by first|exact .inl g53|exact .inr c64)).symm|exact best_no (by first|(left;simpa using g50)|exact .inr ⟨g53,c64⟩)|exact (best_no (by first|(left;simpa using g50)|exact .inr ⟨g53,c64⟩)).symm))) Bj)))))))))))))
      ·refine Ay (Ak (Aj (Aq (S12 2 3 4 5 6 9 10 38 39 87 88 89 C C C C C C C C C C C C) (Ax (Gr (Rad C C) (Gm C (Bd ?_)))))))
       have hlow:((e_ rs4 b).xs.take (q+1)).foldl (lowT (List.set tr.gone (b).toNat (true))) tr.sup=lowT (List.set tr.gone (b).toNat (true)) sup1 (e_ (e_ rs4 b).xs (q:Int)):=by rw [Cu _ q om,List.foldl_append,←hs1];rfl
       have hlr:=lowT_rng (gone:=(List.set tr.gone (b).toNat (true))) (p:=(e_ (e_ rs4 b).xs (q:Int))) (by have:=hpr om;omega) hsr
       have hll:=lowT_len (List.set tr.gone (b).toNat (true)) sup1 (e_ (e_ rs4 b).xs (q:Int))
       exact B2 ((q+1),(sup1)) (by dsimp only;exact ⟨om,(by rw [hlow];first|exact (low_yes (by simpa using g99) (by simpa using c106)).symm|exact (low_no (by first|(left;simpa using g99)|(right;simpa using c106))).symm),(by first|exact hs1l|(simp only [List.length_set];exact hs1l)),(by first|(rw [low_yes (by simpa using g99) (by simpa using c106)] at hlr;exact λx hx=>by have:=hlr x hx;push_cast;omega)|(rw [low_no (by first|(left;simpa using g99)|(right;simpa using c106))] at hlr;exact λx hx=>by have:=hlr x hx;push_cast;omega))⟩) (hL:=(Aa C (Aa C (Aa C (Aa C (Aa C (Aa C (Aa C (Aa C (Aa C (Aa C (Aa C (Aa (C4 C (by first|omega|rfl|((try dsimp only);first|exact best_yes (by simpa using g50) (by first|exact .inl g53|exact .inr c64)|exact (best_yes (by simpa using g50) (by first|exact .inl g53|exact .inr c64)).symm|exact best_no (by first|(left;simpa using g50)|exact .inr ⟨g53,c64⟩)|exact (best_no (by first|(left;simpa using g50)|exact .inr ⟨g53,c64⟩)).symm))) Bj)))))))))))))
     ·refine eb (eb (eb (eb (eb (eb (Gr (Al C C) (Af (Aq (S14 106 14 2 3 4 5 6 9 10 38 39 87 88 89 C C C C C C C C C C C C C C) (C2 C (Ay (Ak (Aj (Aq (S12 2 3 4 5 6 9 10 38 39 87 88 89 C C C C C C C C C C C C) (Ax (Gr (Rad C C) (Gm C (Bd ?_)))))))))))))))))
      have hlow:((e_ rs4 b).xs.take (q+1)).foldl (lowT (List.set tr.gone (b).toNat (true))) tr.sup=lowT (List.set tr.gone (b).toNat (true)) sup1 (e_ (e_ rs4 b).xs (q:Int)):=by rw [Cu _ q om,List.foldl_append,←hs1];rfl
      have hlr:=lowT_rng (gone:=(List.set tr.gone (b).toNat (true))) (p:=(e_ (e_ rs4 b).xs (q:Int))) (by have:=hpr om;omega) hsr
      have hll:=lowT_len (List.set tr.gone (b).toNat (true)) sup1 (e_ (e_ rs4 b).xs (q:Int))
      exact B2 ((q+1),(sup1)) (by dsimp only;exact ⟨om,(by rw [hlow];first|exact (low_yes (by simpa using g99) (by simpa using c106)).symm|exact (low_no (by first|(left;simpa using g99)|(right;simpa using c106))).symm),(by first|exact hs1l|(simp only [List.length_set];exact hs1l)),(by first|(rw [low_yes (by simpa using g99) (by simpa using c106)] at hlr;exact λx hx=>by have:=hlr x hx;push_cast;omega)|(rw [low_no (by first|(left;simpa using g99)|(right;simpa using c106))] at hlr;exact λx hx=>by have:=hlr x hx;push_cast;omega))⟩) (hL:=(Aa C (Aa C (Aa C (Aa C (Aa C (Aa C (Aa C (Aa C (Aa C (Aa C (Aa C (Aa (C4 C (by first|omega|rfl|((try dsimp only);first|exact best_yes (by simpa using g50) (by first|exact .inl g53|exact .inr c64)|exact (best_yes (by simpa using g50) (by first|exact .inl g53|exact .inr c64)).symm|exact best_no (by first|(left;simpa using g50)|exact .inr ⟨g53,c64⟩)|exact (best_no (by first|(left;simpa using g50)|exact .inr ⟨g53,c64⟩)).symm))) Bj)))))))))))))
    ·refine Bs (Ap (Ap (A7 (Ak (Aj (Ax (Gr (Rad C C) (Gm C (Bd ?_)))))))))
     have hstp:(TrS.mk sup1 (List.set tr.gone (b).toNat (true)) (List.set tr.num (b).toNat (max tr.k (e_ tr.sup b))) (tr.ord++[b]) (max tr.k (e_ tr.sup b)))=stepTr (trisE nd es) tr:=by unfold stepTr;rw [hbE,hs1,List.take_of_length_le om,rows_atG hrs4 hb0.1 om]
     exact B2 ((j+1),((TrS.mk sup1 (List.set tr.gone (b).toNat (true)) (List.set tr.num (b).toNat (max tr.k (e_ tr.sup b))) (tr.ord++[b]) (max tr.k (e_ tr.sup b)))),(ad12),(cp13)) (by dsimp only;exact ⟨om,(by rw [hstp,htr];rfl),(by rw [hstp];exact hok.step hTok om)⟩) (hL:=(Aa (Cr C (by first|rfl|simp)) (Aa C (Aa C (Aa C (Aa C (Aa C (Aa (C4 C (by first|omega|rfl|((try dsimp only);first|exact best_yes (by simpa using g50) (by first|exact .inl g53|exact .inr c64)|exact (best_yes (by simpa using g50) (by first|exact .inl g53|exact .inr c64)).symm|exact best_no (by first|(left;simpa using g50)|exact .inr ⟨g53,c64⟩)|exact (best_no (by first|(left;simpa using g50)|exact .inr ⟨g53,c64⟩)).symm))) (Aa C (Aa (C4 C (by first|omega|rfl|((try dsimp only);first|exact best_yes (by simpa using g50) (by first|exact .inl g53|exact .inr c64)|exact (best_yes (by simpa using g50) (by first|exact .inl g53|exact .inr c64)).symm|exact best_no (by first|(left;simpa using g50)|exact .inr ⟨g53,c64⟩)|exact (best_no (by first|(left;simpa using g50)|exact .inr ⟨g53,c64⟩)).symm))) Bj))))))))))
  ·refine Bs (Ap (Ap (A7 (Aj (Ah (Gm C (Gm C (Ga C (Ga C (Af (Aq (S2 3 2 C C) (Aw ?_))))))))))))
   have hje:j=(trisE nd es).length:=by omega
   subst hje
   subst htr
   have hnl:=hok.nlen
   exact Co C C C (vc 3 (.slice ao (trussO (trisE nd es)).length co) (trussO (trisE nd es))::vc 3 (.slice ad9 (trussN (trisE nd es)).length cp10) (trussN (trisE nd es))::I) (by show Fit κ _ (vc 3 _ _::vc 3 (.slice _ (runTr (trisE nd es) (trisE nd es).length).num.length _) (runTr (trisE nd es) (trisE nd es).length).num::I);rw [hnl];simp only [List.length_replicate,htl];exact B4) ⟨ao,co,ad9,cp10,by show _=Value.tuple #[_,.slice _ (runTr (trisE nd es) (trisE nd es).length).num.length _];rw [hnl];simp only [List.length_replicate,htl];rfl,rfl⟩
def trussG(nd:Int)(es:List Pt):List Int:=if checkG nd es≠0 then [] else trussN (trisE nd es)
theorem TNumbers_ok{κ:Ctx}{I:List Item}{nd:Int}{va:Value}{es:List Pt}(hl:Sl κ I va es)(hb:es.length<=1000000)(hT:TabRd κ I 0 tzCells):ep prog κ 149 [.agg #[e7 nd,va]] I (λr J=>∃a c,r = .tuple #[.slice a (trussG nd es).length c,e7 (checkG nd es)]/\J=vc 3 (.slice a (trussG nd es).length c) (trussG nd es)::I):=by
 refine Ce1 Tryz.func149 C C ?_
 refine Ah (Ge1 (Bc (cs:=[_,_]) C C C) λb1=>Ga C (Ga C (Af (Au (Ah (Gl2 ty48 ?_))))))
 refine Gc0 (Ao call83 C C (CheckGen_ok (Bh hl))) ?_
 refine Ga C (Af (Ah (Gm C (Gr (Be C C) (Af (A6 C (λc10=>?_) (λc10=>?_)))))))
 ·refine Ah (Gm C (Ga C (Ga C (Af (Aw (Ai ?_))))))
  have hX:(trussG nd es)=[]:=if_pos c10
  exact Co C C C (vc 3 (.slice none (trussG nd es).length 0) (trussG nd es)::I) (by rw [hX];exact Cc (show Fit κ _ I from A0) (Bt (α:=Int) _ _)) ⟨none,0,by rw [hX];rfl,rfl⟩
 ·refine Ay (Aj (Ah (Gl2 ty48 ?_)))
  refine G.e (Ao call222 C C (TPeel_ok (nd:=nd) (Bh hl) (checkG_ok.1 (Classical.not_not.1 c10)) om (Cg hT A0))) ?_
  rintro _ _ ⟨_,_,⟨ad2,cp3,ad4,cp5,rfl,rfl⟩,rfl,rfl⟩
  refine Gm C (Gr (A2 C C) (Gr (A2 C C) (Ga C (Ga C (Af (Aq (S1 6 C) (Ah (Gm C (Ga C (Ga C (Af (Aw ?_))))))))))))
  have hX:(trussG nd es)=_:=if_neg c10
  have hz:checkG nd es=0:=Classical.not_not.1 c10
  exact Co C C C (vc 3 (.slice ad4 (trussG nd es).length cp5) (trussG nd es)::I) (by rw [hX];exact A5) ⟨ad4,cp5,by rw [hX,hz]<;>rfl,rfl⟩
variable {κ:Ctx}{I:List Item}
structure FrV (x:Fr):Prop where
 n0:0<=x.num
 n1:x.num<=1073741824
 d0:1<=x.den
 d1:x.den<=1073741824
 cop:gcdI x.num x.den=1
theorem mkF_val{a b:Int}(h0:0<=a)(h1:a<=1073741824)(h2:0<b)(h3:b<=1073741824):FrV (mkF a b):=by
 have hn:=mkF_num h0 h2
 have hd:=mkF_den (a:=a) h2
 refine ⟨hn.1,by omega,hd.1,by omega,?_⟩
 obtain ⟨m,rfl⟩:=Int.eq_ofNat_of_zero_le h0
 obtain ⟨n,rfl⟩:=Int.eq_ofNat_of_zero_le (show 0<=b by omega)
 have hg:0<m.gcd n:=Nat.gcd_pos_of_pos_right _ om
 have hc:=Nat.coprime_div_gcd_div_gcd hg
 unfold mkF gcdI
 simp only [Int.toNat_natCast,Int.ofNat_eq_natCast,←Int.natCast_ediv]
 rw [hc.gcd_eq_one];rfl
def cmpF(x y:Fr):Int:=if x.num*y.den<y.num*x.den then -1 else if y.num*x.den<x.num*y.den then 1 else 0
def sgnI(n:Int):Int:=if n<0 then -1 else if 0<n then 1 else 0
theorem sgn_bd(n:Int) : -1<=sgnI n/\sgnI n<=1:=by unfold sgnI;split<;>(try split)<;>omega
theorem mul_small{x y:Int}(hx:0<=x/\x<=1073741824)(hy:0<=y/\y<=1073741824):0<=x*y/\x*y<=1152921504606846976:=by
 refine ⟨Int.mul_nonneg hx.1 hy.1,?_⟩
 have h1:=Int.mul_le_mul hx.2 hy.2 hy.1 dc
 omega
theorem FrV.mul{x y:Fr}(hx:FrV x)(hy:FrV y):(0<=x.num*y.den/\x.num*y.den<=1152921504606846976)/\(0<x.num->0<x.num*y.den):=by
 have h1:=hx.n0;have h2:=hx.n1;have h3:=hy.d0;have h4:=hy.d1
 exact ⟨mul_small ⟨h1,h2⟩ ⟨by omega,h4⟩,λh=>Int.mul_pos h om⟩
theorem Mul64_ok(x y:Int)(hx:0<=x/\x<=1073741824)(hy:0<=y/\y<=1073741824):ep prog κ 173 [.int .u64 x,.int .u64 y] I (λr J=>r = .tuple #[.int .u64 0,.int .u64 (x*y)]/\I=J):=by
 have hxy:=mul_small hx hy
 refine Ce2 Tryz.func173 C C ?_
 exact Ah (Ga C (Ga C (Af (Ah (Gm C (Gr (Runs.lowU (m:=x) (r:=x) C C om om om) (Ga C (Af (Ah (Gm C (Gr (Runs.shr32 (m:=x) (r:=0) C C om) (Ga C (Af (Ah (Gm C (Gr (Runs.lowU (m:=y) (r:=y) C C om om om) (Ga C (Af (Ah (Gm C (Gr (Runs.shr32 (m:=y) (r:=0) C C om) (Ga C (Af (Aq (S6 9 8 7 6 0 1 C C C C C C) (Ah (Gm C (Gm C (Gr (Runs.mulU (m:=x) (n:=y) (r:=x*y) C C C om om) (Ga C (Af (Ah (Gm C (Gm C (Gr (Runs.mulU (m:=0) (n:=y) (r:=0) C C (Int.zero_mul _) om om) (Gm C (Gr (Runs.shr32 (m:=x*y) (r:=x*y / 4294967296) C C om) (Gr (Runs.addU (m:=0) (n:=x*y / 4294967296) (r:=x*y / 4294967296) C C om om om) (Ga C (Af (Aq (S6 11 9 7 6 0 1 C C C C C C) (Ah (Gm C (Gr (Runs.lowU (m:=x*y / 4294967296) (r:=x*y / 4294967296) C C om om om) (Ga C (Af (Ah (Gm C (Gr (Runs.shr32 (m:=x*y / 4294967296) (r:=0) C C om) (Ga C (Af (Ah (Gm C (Gm C (Gm C (Gr (Runs.mulU (m:=x) (n:=0) (r:=0) C C (Int.mul_zero _) om om) (Gr (Runs.addU (m:=x*y / 4294967296) (n:=0) (r:=x*y / 4294967296) C C om om om) (Ga C (Af (Aq (S6 12 13 9 7 0 1 C C C C C C) (Ah (Gm C (Gm C (Gr (Runs.mulU (m:=0) (n:=0) (r:=0) C C (Int.zero_mul _) om om) (Gm C (Gr (Runs.addU (m:=0) (n:=0) (r:=0) C C om om om) (Gm C (Gr (Runs.shr32 (m:=x*y / 4294967296) (r:=0) C C om) (Gr (Runs.addU (m:=0) (n:=0) (r:=0) C C om om om) (Ga C (Af (Aq (S3 4 0 1 C C C) (Ah (Gm C (Gm C (Gr (Runs.mulU (m:=x) (n:=y) (r:=x*y) C C C om om) (Ga C (Af (Aw (Co C C C I A0 ⟨rfl,rfl⟩)))))))))))))))))))))))))))))))))))))))))))))))))))))))))))))))))))))))))))))))
theorem Sign_ok(n:Int):ep prog κ 172 [e7 n] I (λr J=>r=e7 (sgnI n)/\I=J):=by
 refine Ce1 Tryz.func172 C C ?_
 refine Ah (Ga C (Af (Au (A4 (Ah (Gm C (Gr (A9 C C) (Ga C (Af (A6 C (λc3=>?_) (λc3=>?_)))))))))))
 ·exact Ah (Ga C (Af (Aw (Av (Ai (A1 C C I A0 ⟨by unfold sgnI;first|rw [if_pos c3]|rw [if_neg c3,if_pos c6]|rw [if_neg c3,if_neg c6],rfl⟩))))))
 ·refine Ah (Gm C (Gr (Bv C C) (Ga C (Af (A6 C (λc6=>?_) (λc6=>?_))))))
  ·exact Ah (Ga C (Af (Aw (Av (Ai (A1 C C I A0 ⟨by unfold sgnI;first|rw [if_pos c3]|rw [if_neg c3,if_pos c6]|rw [if_neg c3,if_neg c6],rfl⟩))))))
  ·exact Ay (Ak (Aj (Ah (Ga C (Af (Aw (A1 C C I A0 ⟨by unfold sgnI;first|rw [if_pos c3]|rw [if_neg c3,if_pos c6]|rw [if_neg c3,if_neg c6],rfl⟩)))))))
theorem RatValid_ok(x:Fr)(hx:FrV x):ep prog κ 89 [.agg #[e7 (x.num),e7 (x.den)]] I (λr J=>r = .bool true/\I=J):=by
 have hn0x:=hx.n0
 have hn1x:=hx.n1
 have hd0x:=hx.d0
 have hd1x:=hx.d1
 refine Ce1 Tryz.func89 C C ?_
 refine Ah (Ge1 (Bc (cs:=[_,_]) C C C) λb1=>Ga C (Af (Ah (Gf fld40_0 C (Gl ef ?_)))))
 refine G.e (Ao call157 C C (RWithin_ok x.num 1152921504606846976 om)) ?_
 rintro _ _ ⟨_,_,⟨rfl,rfl⟩,rfl,rfl⟩
 refine Gm C (Ba (d:=6) C (λg6=>?_) (λg6=>?_))
 ·refine e9 (Ab fld40_1 C) (e9 (As ef) ?_)
  refine e9 (B8 C C) (Gr (Am C C) (Gm C (Ba (d:=11) C (λg11=>?_) (λg11=>?_))))
  ·refine e9 (Ab fld40_1 C) (e9 (As ef) ?_)
   refine e9 (Du C C) (Gr (Am C C) (Gm C (Ba (d:=16) C (λg16=>?_) (λg16=>?_))))
   ·refine e9 (Ab fld40_0 C) (e9 (As ef) ?_)
    refine e9 (Ab fld40_0 C) (e9 (As ef) ?_)
    refine e9 (Runs.neg C (by unfold InR;omega)) (e9 (D2 C C) ?_)
    have hmx22:(if x.num < -(x.num) then -(x.num) else x.num)=x.num:=by rw [if_neg om]
    rw [hmx22]
    refine e9 (Ab fld40_1 C) (e9 (As ef) ?_)
    refine Ec (Cq C C C) (Ao call158 C C (Common_ok x.num x.den om om)) ?_
    rintro _ _ ⟨_,_,⟨rfl,rfl⟩,rfl,rfl⟩
    exact e9 (Bi C C) (Gr (Am C C) (Ga C (Af (Aq (S1 2 C) (Aw (A1 C C I A0 ⟨by rw [decide_eq_true hx.cop],rfl⟩))))))
   ·exact absurd om g16
  ·exact absurd om g11
 ·exact absurd om g6
set_option maxHeartbeats 1000000 in
theorem RatCmp_ok(x y:Fr)(hx:FrV x)(hy:FrV y):ep prog κ 101 [.agg #[e7 (x.num),e7 (x.den)],.agg #[e7 (y.num),e7 (y.den)]] I (λr J=>r=e7 (cmpF x y)/\I=J):=by
 have hn0x:=hx.n0
 have hn1x:=hx.n1
 have hd0x:=hx.d0
 have hd1x:=hx.d1
 have hn0y:=hy.n0
 have hn1y:=hy.n1
 have hd0y:=hy.d0
 have hd1y:=hy.d1
 have hb1:=sgn_bd x.num
 have hb2:=sgn_bd y.num
 have hm1:=hx.mul hy
 have hm2:=hy.mul hx
 have hz1:x.num=0->x.num*y.den=0:=λh=>by rw [h,Int.zero_mul]
 have hz2:y.num=0->y.num*x.den=0:=λh=>by rw [h,Int.zero_mul]
 refine Ce2 Tryz.func101 C C ?_
 refine Ah (Ge1 (Bc (cs:=[_,_]) C C C) λb1=>Ge1 (Bc (cs:=[_,_]) C C C) λb2=>Ga C (Af (Au (Ah (Gl2 ty40 ?_)))))
 refine Gc0 (Ao call89 C C (RatValid_ok x asm)) ?_
 refine Gr (Cb C) (Gm C (e9 (Bq (vs:=[_,_]) ty40) ?_))
 refine Ec (Cq C C C) (Ao call89 C C (RatValid_ok y asm)) ?_
 rintro _ _ ⟨_,_,⟨rfl,rfl⟩,rfl,rfl⟩
 refine e9 (Cb C) (Gr (Al C C) (Af (C2 C (Ay (Aj (Ah (Gf fld40_0 C (Gl ef ?_))))))))
 refine Gc0 (Ao call172 C C (Sign_ok x.num)) ?_
 refine Ga C (Af (Aq (S3 5 3 2 C C C) (Au (Ah (Gf fld40_0 C (Gl ef ?_))))))
 refine Gc0 (Ao call172 C C (Sign_ok y.num)) ?_
 refine Ga C (Af (Ah (Gm C (Gm C (Gr (Be C C) (Gm C (Ba (d:=28) C (λg28=>?_) (λg28=>?_))))))))
 ·refine eb (eb (Gr (Am C C) (Af (Aq (S5 31 6 5 3 2 C C C C C) (B7 C (Ah (Gm C (Gm C (Gr (Rsu C C) (Gc0 (Ao call172 C C (Sign_ok ((sgnI x.num) - (sgnI y.num)))) ?_))))))))))
  refine Ga C (Af (Aw (Ai ?_)))
  have hsx:sgnI x.num=if x.num<0 then -1 else if 0<x.num then 1 else 0:=rfl
  have hsy:sgnI y.num=if y.num<0 then -1 else if 0<y.num then 1 else 0:=rfl
  exact A1 C C I A0 ⟨congrArg e7 (by first|(have hss:sgnI (sgnI x.num - sgnI y.num)=if sgnI x.num - sgnI y.num<0 then -1 else if 0<sgnI x.num - sgnI y.num then 1 else 0:=rfl;unfold cmpF;rw [hss];repeat (first|omega|split))|(unfold cmpF;repeat (first|omega|split))),rfl⟩
 ·refine e9 (Ad C) (e9 (Bi C C) (Gr (Al C C) (Af (Aq (S5 31 6 5 3 2 C C C C C) (A6 C (λc31=>?_) (λc31=>?_))))))
  ·refine Ah (Gm C (Gm C (Gr (Rsu C C) (Gc0 (Ao call172 C C (Sign_ok ((sgnI x.num) - (sgnI y.num)))) ?_))))
   refine Ga C (Af (Aw (Ai ?_)))
   have hsx:sgnI x.num=if x.num<0 then -1 else if 0<x.num then 1 else 0:=rfl
   have hsy:sgnI y.num=if y.num<0 then -1 else if 0<y.num then 1 else 0:=rfl
   exact A1 C C I A0 ⟨congrArg e7 (by first|(have hss:sgnI (sgnI x.num - sgnI y.num)=if sgnI x.num - sgnI y.num<0 then -1 else if 0<sgnI x.num - sgnI y.num then 1 else 0:=rfl;unfold cmpF;rw [hss];repeat (first|omega|split))|(unfold cmpF;repeat (first|omega|split))),rfl⟩
  ·refine Ay (Aj (Ah (Gf fld40_0 C (Gl ef ?_))))
   refine Gf fld40_0 C (Gl ef ?_)
   refine Gr (Runs.neg C (by unfold InR;omega)) (Gr (D2 C C) ?_)
   have hmx42:(if x.num < -(x.num) then -(x.num) else x.num)=x.num:=by rw [if_neg om]
   rw [hmx42]
   refine Gr (Runs.convU B6 Do C om) (Gf fld40_1 C (Gl ef ?_))
   refine Gr (Runs.convU B6 Do C om) (G.e (Ao call173 C C (Mul64_ok x.num y.den om om)) ?_)
   rintro _ _ ⟨_,_,⟨rfl,rfl⟩,rfl,rfl⟩
   refine Gm C (Gr (A2 C C) (Gr (A2 C C) (Ga C (Ga C (Af (Aq (S5 8 7 5 3 2 C C C C C) (Ah (Gf fld40_0 C (Gl ef ?_)))))))))
   refine Gf fld40_0 C (Gl ef ?_)
   refine Gr (Runs.neg C (by unfold InR;omega)) (Gr (D2 C C) ?_)
   have hmx56:(if y.num < -(y.num) then -(y.num) else y.num)=y.num:=by rw [if_neg om]
   rw [hmx56]
   refine Gr (Runs.convU B6 Do C om) (Gf fld40_1 C (Gl ef ?_))
   refine Gr (Runs.convU B6 Do C om) (G.e (Ao call173 C C (Mul64_ok y.num x.den om om)) ?_)
   rintro _ _ ⟨_,_,⟨rfl,rfl⟩,rfl,rfl⟩
   refine Gm C (Gr (A2 C C) (Gr (A2 C C) (Ga C (Ga C (Af (Aq (S5 10 9 8 7 5 C C C C C) (Au (A4 (Ah (Gm C (Gm C (Gr (Bi C C) (Gm C (Ba (d:=68) C (λg68=>?_) (λg68=>?_)))))))))))))))
   ·refine e9 (Ad C) (e9 (Ad C) (e9 (Bi C C) (Gr (Am C C) (Ga C (Af (Aq (S6 64 10 9 8 7 5 C C C C C C) (A6 C (λc64=>?_) (λc64=>?_))))))))
    ·refine Ah (Ga C (Af (Aw (Av (Ai ?_)))))
     have hsx:sgnI x.num=if x.num<0 then -1 else if 0<x.num then 1 else 0:=rfl
     have hsy:sgnI y.num=if y.num<0 then -1 else if 0<y.num then 1 else 0:=rfl
     exact A1 C C I A0 ⟨congrArg e7 (by first|(have hss:sgnI (sgnI x.num - sgnI y.num)=if sgnI x.num - sgnI y.num<0 then -1 else if 0<sgnI x.num - sgnI y.num then 1 else 0:=rfl;unfold cmpF;rw [hss];repeat (first|omega|split))|(unfold cmpF;repeat (first|omega|split))),rfl⟩
    ·refine Ah (Gm C (Gm C (Gr (A9 C C) (Gm C (Ba (d:=77) C (λg77=>?_) (λg77=>?_))))))
     ·exact absurd g77 dc
     ·refine e9 (Ad C) (e9 (Ad C) (e9 (Bi C C) (e9 (Ad C) (Ba (d:=81) C (λg81=>?_) (λg81=>?_)))))
      ·refine e9 (Ad C) (e9 (Ad C) (e9 (A9 C C) (e9 (Am C C) (Gr (Al C C) (Ga C (Af (Aq (S2 73 5 C C) (A6 C (λc73=>?_) (λc73=>?_)))))))))
       ·refine Ah (Gm C (Gr (Runs.neg C (by unfold InR;omega)) (Ga C (Af (Aw (Av (Ai ?_)))))))
        have hsx:sgnI x.num=if x.num<0 then -1 else if 0<x.num then 1 else 0:=rfl
        have hsy:sgnI y.num=if y.num<0 then -1 else if 0<y.num then 1 else 0:=rfl
        exact A1 C C I A0 ⟨congrArg e7 (by first|(have hss:sgnI (sgnI x.num - sgnI y.num)=if sgnI x.num - sgnI y.num<0 then -1 else if 0<sgnI x.num - sgnI y.num then 1 else 0:=rfl;unfold cmpF;rw [hss];repeat (first|omega|split))|(unfold cmpF;repeat (first|omega|split))),rfl⟩
       ·refine Ay (Ak (Aj (Ah (Gm C (Ga C (Af (Aw ?_)))))))
        have hsx:sgnI x.num=if x.num<0 then -1 else if 0<x.num then 1 else 0:=rfl
        have hsy:sgnI y.num=if y.num<0 then -1 else if 0<y.num then 1 else 0:=rfl
        exact A1 C C I A0 ⟨congrArg e7 (by first|(have hss:sgnI (sgnI x.num - sgnI y.num)=if sgnI x.num - sgnI y.num<0 then -1 else if 0<sgnI x.num - sgnI y.num then 1 else 0:=rfl;unfold cmpF;rw [hss];repeat (first|omega|split))|(unfold cmpF;repeat (first|omega|split))),rfl⟩
      ·exact absurd rfl g81
   ·exact absurd rfl g68
end Go.Sl
namespace Go.Sl
open Go.RowKit (Below)
section
variable {P:Program}{κ:Ctx}{N:Frm}{L:Env}{I J:List Item}{l:Nat}{body:Code}{R:Ending->World->Prop}
def RB(P:Program)(l:Nat)(body:Code)(R:Ending->World->Prop):Exit->Act->World->Prop:=
 Exit.then (λa₁ w₁=>∃w₂,(Instr.beginRound l).run P w₁ = .ok () w₂/\body.wpIn (Fence.wide.inRound l) 0 P (roundPost P l R) a₁ w₂) (λ_ _ _=>False)
theorem V.begin{r:Loop}(J:List Item)(hf:Fit κ I (recI l r::J))(hrd:r.state = .ready/\r.pending=none)(h:WR P κ N l 0 body (roundPost P l R) L (recI l {r with state:= .busy}::J)):V κ N (RB P l body R) .normal L I:=λa w ha hs=>by
 have hs':=hf w hs
 have hl:=(hs'.ok _ List.mem_cons_self).1
 exact ⟨_,run_beginRound hl hrd.1,h a _ ha hs'.putRec⟩
theorem YieldB.mkA{r:Loop}{Post:Bool->List Item->Prop}{args:List Value}{L₀:Env}{assign:Code}(hps:args.length=r.params.size)(ha:r.assign=assign)(hb:r.body=body)
  (hag:Ag N {tmps:=(r.params.zip args.toArray).foldl (λt (p,v)=>t.setIfInBounds p v) r.tmps,defers:=[]} L₀)
  (h:WR P κ N l 0 assign (RB P l body λe w'=>∃b,e = .returned (.bool b)/\∃K,Post b K/\Sep κ w' K) L₀ (recI l r::I)):YieldB P κ l args (recI l r::I) Post:=λw hs=>by
 have hl:=(hs.ok _ List.mem_cons_self).1
 subst ha hb
 exact ⟨_,_,_,_,run_yield hl (by simpa using hps),roundIn_of_wpIn trivial (h _ w hag hs)⟩
theorem ag_two{tm:Array Value}{v u:Value}{p q:Nat}(hta:Ag ⟨N.n,[]⟩ {tmps:=tm,defers:=[]} L)(hp:Nat.blt p N.n=true)(hq:Nat.blt q N.n=true):Ag ⟨N.n,[]⟩ {tmps:=(tm.setIfInBounds p v).setIfInBounds q u,defers:=[]} ((q,u)::(p,v)::L):=(hta.put p hp v).put q hq u
end
end Go.Sl
namespace Go.Sl
open Go.Proofs
set_option maxRecDepth 4000
variable {κ:Ctx}{I:List Item}
theorem HCheck_ok{nd:Int}{va:Value}{es:List Ev}(hl:Sl κ I va es):ep prog κ 79 [e7 nd,va] I (λr J=>r=e7 (streamE nd es)/\I=J):=by
 refine Ce2 Tryz.func79 C C ?_
 refine Ah (Ga C (Af (Ah (Gm C (Gm C (G.e (Ao call139 C C (Stream_ok (nd:=nd) (Bh hl))) ?_))))))
 rintro _ _ ⟨_,_,⟨rfl,rfl⟩,rfl,rfl⟩
 exact Ga C (Af (Aw (A1 C C I A0 ⟨rfl,rfl⟩)))
theorem ACheck_ok{nd kd wd mo:Int}{va:Value}{es:List Ev}(hl:Sl κ I va es):ep prog κ 97 [e7 nd,va,.agg #[e7 kd,e7 wd,e7 mo]] I (λr J=>r=e7 (slideE nd kd wd mo es)/\I=J):=by
 refine Ce3 Tryz.func97 C C ?_
 refine Ah (Ge1 (Bc (cs:=[_,_,_]) C C C) λb1=>Ga C (Af (Au (Ah (Gl3 ty31 ?_)))))
 refine G.e (Ao call78 C C (CheckW_ok kd wd mo)) ?_
 rintro _ _ ⟨_,_,⟨rfl,rfl⟩,rfl,rfl⟩
 refine Ga C (Af (Ah (Gm C (Gr (Be C C) (Af (A6 C (λc11=>?_) (λc11=>?_)))))))
 ·exact Ah (Gm C (Ga C (Af (Aw (Ai (A1 C C I A0 ⟨by unfold slideE;rw [if_pos c11],rfl⟩))))))
 ·refine Ay (Aj (Ah (Gm C (Gm C (Gc0 (Ao call79 C C (HCheck_ok (nd:=nd) (Bh hl))) ?_)))))
  exact Ga C (Af (Aq (S1 6 C) (Aw (A1 C C I A0 ⟨by unfold slideE;rw [if_neg c11],rfl⟩))))
theorem Frames_ok{nd kd wd mo:Int}{ea:Option Addr}{en ec:Nat} :
    ep prog κ 98 [e7 nd,.slice ea en ec,.agg #[e7 kd,e7 wd,e7 mo]] I (λr J=>∃q1 q2 q3,r = .func (.func 165) #[] #[.pointer (some ⟨q1,0,none⟩),.pointer (some ⟨q2,0,none⟩),.pointer (some ⟨q3,0,none⟩)]/\J=e8 q3 [e7 kd,e7 wd,e7 mo] 31::e8 q2 [.slice ea en ec] 28::e8 q1 [e7 nd] 3::I):=by
 refine Ce3 Tryz.func98 C C ?_
 exact Ah (Ge1 (Bc (cs:=[_]) C C C) λb1=>Ge1 (Bc (cs:=[_]) C C C) λb2=>Ge1 (Bc (cs:=[_,_,_]) C C C) λb3=>Ga C (Af (Ah (Gr (D8 C C) (Ga C (Af (Aw (A1 C C (e8 b3 [e7 kd,e7 wd,e7 mo] 31::e8 b2 [.slice ea en ec] 28::e8 b1 [e7 nd] 3::I) (Dj _) ⟨b1,b2,b3,rfl,rfl⟩))))))))
theorem at_end{kd wd mo tq:Int}{es:List Ev}(h:∀i:Nat,i<(allE kd wd mo es).length->(e_ (allE kd wd mo es) i).tm<=tq):edgesK (eh ((allE kd wd mo es).take (allE kd wd mo es).length))=atG kd wd mo es tq:=by
 unfold atG
 rw [atK_stop (Nat.le_refl _) h λhlt=>absurd hlt (Nat.lt_irrefl _)]
theorem at_stop{kd wd mo tq:Int}{es:List Ev}{j:Nat}(hj:j<(allE kd wd mo es).length)(h:∀i:Nat,i<j->(e_ (allE kd wd mo es) i).tm<=tq)(h2:tq<(e_ (allE kd wd mo es) j).tm):edgesK (eh ((allE kd wd mo es).take j))=atG kd wd mo es tq:=by
 unfold atG
 rw [atK_stop (Nat.le_of_lt hj) h λ_=>h2]
theorem atm_all{E:List Ev}{fst own:Bool}{j j1:Nat}{tm tq:Int}(hM:MomentX E fst j tm own j1)(hle:tm<=tq)(hq:fst=false->∀i:Nat,i<j->(e_ E i).tm<=tq):∀i:Nat,i<j1->(e_ E i).tm<=tq:=λi hi=>by
 by_cases h:i<j
 ·cases hf:fst with
  |true=>have:=(hM.first hf).2;omega
  |false=>exact hq hf i h
 ·rw [hM.same i om hi];exact hle
theorem at_left{kd wd mo nd gn tm tq:Int}{es:List Ev}{X:List Pt}{fst own:Bool}{j j1:Nat}(hM:MomentX (allE kd wd mo es) fst j tm own j1)(hjl:j<=(allE kd wd mo es).length)(hlt:tq<tm)(h0:0<=tq)
  (hq:fst=false->gn=nd/\X=edgesK (eh ((allE kd wd mo es).take j))/\∀i:Nat,i<j->(e_ (allE kd wd mo es) i).tm<=tq):gn=nd/\X=atG kd wd mo es tq:=by
 cases hf:fst with
 |true=>have:=(hM.first hf).1;omega
 |false=>
  obtain ⟨h1,h2⟩:=hM.next hf
  obtain ⟨q1,q2,q3⟩:=hq hf
  exact ⟨q1,q2.trans (at_stop h1 q3 om)⟩
set_option maxHeartbeats 2000000 in
theorem At_ok{nd kd wd mo tq:Int}{ea:Option Addr}{ec:Nat}{es:List Ev}(hl:Sl κ I (.slice ea es.length ec) es)(hH:HistOk nd kd wd mo es)(hlen:es.length<=19)(ht:0<=tq/\tq<=1048576):ep prog κ 44 [e7 nd,.slice ea es.length ec,.agg #[e7 kd,e7 wd,e7 mo],e7 tq] I (λr J=>∃a c,r = .tuple #[.agg #[e7 nd,.slice a (atG kd wd mo es tq).length c],e7 0]/\J=vc 135 (.slice a (atG kd wd mo es tq).length c) (atG kd wd mo es tq)::I):=by
 refine ep.enterM (L:=[(0,e7 nd),(1,.slice ea es.length ec),(2,.agg #[e7 kd,e7 wd,e7 mo]),(3,e7 tq)]) Tryz.func44 C C C C ?_
 refine Ah (Ge1 (Bc (cs:=[_,_,_]) C C C) λb1=>Ge1 (Bc (cs:=[_]) C C C) λb2=>Ge1 (A8 ty48 C) λb3=>Ga C (Af (Au (Ah (Gm C (Gm C (Gl3 ty31 ?_)))))))
 refine Gc0 (Ao call97 C C (ACheck_ok (nd:=nd) (kd:=kd) (wd:=wd) (mo:=mo) (Bh hl))) ?_
 refine Ga C (Af (Ah (Gm C (Gr (Be C C) (Af (Aq (S7 19 10 8 7 6 0 1 C C C C C C C) (A6 C (λc19=>?_) (λc19=>?_))))))))
 ·exact absurd (slideE_zeroH hH) c19
 ·refine Ay (Aj (Au (Ah (Gl ef ?_))))
  refine Gr (A9 C C) (Gm C (Ba (d:=24) C (λg24=>?_) (λg24=>?_)))
  ·omega
  ·refine e9 (As ef) ?_
   refine e9 (Bv C C) (Gr (Al C C) (Af (Aq (S6 27 8 7 6 0 1 C C C C C C) (A6 C (λc27=>?_) (λc27=>?_)))))
   ·omega
   ·refine Ay (Aj (Ah (Ge1 (A8 ty48 C) λb4=>Af (Au (Ah (Gm C (Gm C (Gl3 ty31 ?_))))))))
    refine G.e (Ao call98 C C Frames_ok) ?_
    rintro _ _ ⟨_,_,⟨qb5,qb6,qb7,rfl,rfl⟩,rfl,rfl⟩
    refine Af (A4 (W.fit (J:=e8 b4 [e7 0,.slice none 0 0] 48::vc 135 (.slice none 0 0) (([]:List Pt))::e8 qb7 [e7 kd,e7 wd,e7 mo] 31::e8 qb6 [.slice ea es.length ec] 28::e8 qb5 [e7 nd] 3::e8 b3 [e7 0,.slice none 0 0] 48::e8 b2 [e7 tq] 3::e8 b1 [e7 kd,e7 wd,e7 mo] 31::I) (Cc (Bt (α:=Pt) 135 _) B4) ?_))
    refine W.rangeFnB (gf:=165) (lb:=[.pointer (some ⟨qb5,0,none⟩),.pointer (some ⟨qb6,0,none⟩),.pointer (some ⟨qb7,0,none⟩)]) C call165 λDm l rc hr1 hr2 hr3 hr4 hta=>?_
    refine (Frames1_ok (I:=e8 qb7 [e7 kd,e7 wd,e7 mo] 31::e8 qb6 [.slice ea es.length ec] 28::e8 qb5 [e7 nd] 3::e8 b3 [e7 0,.slice none 0 0] 48::e8 b2 [e7 tq] 3::e8 b1 [e7 kd,e7 wd,e7 mo] 31::I) (σ:=Int×(Option Addr)×Nat×(List Pt)) (τ:=Int×(Option Addr)×Nat×(List Pt)) (l:=l) (Lf:=λs=>[recI l rc,dfrI Dm,e8 b4 [e7 (s.1),.slice s.2.1 s.2.2.2.length s.2.2.1] 48,vc 135 (.slice s.2.1 s.2.2.2.length s.2.2.1) (s.2.2.2)]) (Pf:=λfst j s=>(fst=false->s.1=nd/\s.2.2.2=edgesK (eh ((allE kd wd mo es).take j))/\∀i:Nat,i<j->(e_ (allE kd wd mo es) i).tm<=tq)/\(j<=(allE kd wd mo es).length)) (Xf:=λs=>[recI l {rc with state:= .done,pending:=some (.exit 0)},dfrI Dm,e8 b4 [e7 (s.1),.slice s.2.1 s.2.2.2.length s.2.2.1] 48,vc 135 (.slice s.2.1 s.2.2.2.length s.2.2.1) (s.2.2.2)]) (Qf:=λs=>(s.1=nd/\s.2.2.2=atG kd wd mo es tq)) (s0:=(0,none,0,([]:List Pt))) hH hlen (Dv mm) (Dv mm) (Dv mm) (Bh hl) ⟨λh=>(by cases h),Nat.zero_le _⟩ ?_).mono ?_
    ·rintro T hTI fst j tm own j1 ga gc hM ⟨gn,a,c,X⟩ hp
     obtain ⟨hq,hjl⟩:(fst=false->gn=nd/\X=edgesK (eh ((allE kd wd mo es).take j))/\∀i:Nat,i<j->(e_ (allE kd wd mo es) i).tm<=tq)/\(j<=(allE kd wd mo es).length):=hp
     have hbq:BlkRd κ T b2 [e7 tq] 3:=(Dv (I:=e8 qb7 [e7 kd,e7 wd,e7 mo] 31::e8 qb6 [.slice ea es.length ec] 28::e8 qb5 [e7 nd] 3::e8 b3 [e7 0,.slice none 0 0] 48::e8 b2 [e7 tq] 3::e8 b1 [e7 kd,e7 wd,e7 mo] 31::I) mm).fit hTI
     refine YieldB.fit (J:=recI l rc::vc 135 (.slice ga (edgesK (eh ((allE kd wd mo es).take j1))).length gc) (edgesK (eh ((allE kd wd mo es).take j1)))::dfrI Dm::e8 b4 [e7 gn,.slice a X.length c] 48::vc 135 (.slice a X.length c) (X)::T) B4 ?_
     refine YieldB.mkA (L₀:=[(34,.agg #[e7 nd,.slice ga (edgesK (eh ((allE kd wd mo es).take j1))).length gc]),(33,.agg #[e7 tm,.bool own]),(32,.func (.func 165) #[] #[.pointer (some ⟨qb5,0,none⟩),.pointer (some ⟨qb6,0,none⟩),.pointer (some ⟨qb7,0,none⟩)]),(31,.agg #[e7 kd,e7 wd,e7 mo]),(30,.slice ea es.length ec),(29,e7 nd),(11,.pointer (some ⟨b4,0,none⟩)),(27,.bool (decide (1048576<tq))),(8,.pointer (some ⟨b3,0,none⟩)),(7,.pointer (some ⟨b2,0,none⟩)),(6,.pointer (some ⟨b1,0,none⟩)),(0,e7 nd),(1,.slice ea es.length ec)]) (by rw [hr2];rfl) hr3 hr4 (by rw [hr2,fold_two];exact ag_two hta C C) ?_
     refine WR.seq ?_
     refine WR.region (λ_ _ h=>False.elim h) C ?_
     refine Ge1 (A8 ty153 C) λb8=>Ge0 (Cd ty153) ?_
     refine Bd (V.thenR ?_)
     refine WR.sub (L':=[(12,_),(34,_),(11,_),(7,_)]) (Aa C (Aa C (Aa C (Aa C Bj)))) ?_
     refine WR.region (λ_ _ h=>False.elim h) C ?_
     refine Ge1 (A8 ty48 C) λb9=>Ge0 (Cd ty48) ?_
     refine Bd (V.begin (e8 b9 [e7 nd,.slice ga (edgesK (eh ((allE kd wd mo es).take j1))).length gc] 48::e8 b8 [e7 tm,.bool own] 153::vc 135 (.slice ga (edgesK (eh ((allE kd wd mo es).take j1))).length gc) (edgesK (eh ((allE kd wd mo es).take j1)))::dfrI Dm::e8 b4 [e7 gn,.slice a X.length c] 48::vc 135 (.slice a X.length c) (X)::T) B4 hr1 ?_)
     refine WR.block ?_
     refine WR.seq ?_
     refine WR.seq ?_
     refine WR.region (λ_ _ h=>False.elim h) C ?_
     refine Gf fld153_0 C (Gl ef ?_)
     refine Gr (C7 ef C (C1 hbq A0) C) (Gr (Bv C C) (Bd (V.thenR ?_)))
     refine WR.ite C (λc38=>?_) (λc38=>?_)
     ·refine WR.exit ?_
      exact Ap (E4 C (V.roundX (dfrI Dm::e8 b4 [e7 gn,.slice a X.length c] 48::vc 135 (.slice a X.length c) (X)::T) B4 (.inr ⟨rfl,(gn,a,c,X),(show (gn=nd/\X=atG kd wd mo es tq) from (at_left hM hjl om om hq)),rfl⟩)))
     ·refine WR.skip ?_
      refine V.thenR ?_
      refine WR.region (λ_ _ h=>False.elim h) C ?_
      refine Gl2 ty48 ?_
      refine Ge0 (Cd ty48) ?_
      refine Bd (Ak ?_)
      have hall:∀i:Nat,i<j1->(e_ (allE kd wd mo es) i).tm<=tq:=atm_all hM om (λh=>(hq h).2.2)
      exact V.roundB (dfrI Dm::e8 b4 [e7 nd,.slice ga (edgesK (eh ((allE kd wd mo es).take j1))).length gc] 48::vc 135 (.slice ga (edgesK (eh ((allE kd wd mo es).take j1))).length gc) ((edgesK (eh ((allE kd wd mo es).take j1))))::T) B4 hr1 (.inl ⟨rfl,(nd,ga,gc,edgesK (eh ((allE kd wd mo es).take j1))),(show (false=false->nd=nd/\(edgesK (eh ((allE kd wd mo es).take j1)))=edgesK (eh ((allE kd wd mo es).take j1))/\∀i:Nat,i<j1->(e_ (allE kd wd mo es) i).tm<=tq)/\(j1<=(allE kd wd mo es).length) from ⟨(λ_=>⟨rfl,rfl,hall⟩),hM.le.2⟩),rfl⟩)
    rintro v K ⟨rfl,(⟨⟨gn,a,c,X⟩,hp,rfl⟩|⟨⟨gn,a,c,X⟩,hp,rfl⟩)⟩
    ·obtain ⟨hq,hjl⟩:(false=false->gn=nd/\X=edgesK (eh ((allE kd wd mo es).take (allE kd wd mo es).length))/\∀i:Nat,i<(allE kd wd mo es).length->(e_ (allE kd wd mo es) i).tm<=tq)/\((allE kd wd mo es).length<=(allE kd wd mo es).length):=hp
     refine .inl ⟨_,rfl,?_⟩
     show V κ _ _ .normal ([(32,.func (.func 165) #[] #[.pointer (some ⟨qb5,0,none⟩),.pointer (some ⟨qb6,0,none⟩),.pointer (some ⟨qb7,0,none⟩)]),(31,.agg #[e7 kd,e7 wd,e7 mo]),(30,.slice ea es.length ec),(29,e7 nd),(11,.pointer (some ⟨b4,0,none⟩)),(27,.bool (decide (1048576<tq))),(8,.pointer (some ⟨b3,0,none⟩)),(7,.pointer (some ⟨b2,0,none⟩)),(6,.pointer (some ⟨b1,0,none⟩)),(0,e7 nd),(1,.slice ea es.length ec)]:Env) (dfrI Dm::e8 b4 [e7 gn,.slice a X.length c] 48::vc 135 (.slice a X.length c) (X)::e8 qb7 [e7 kd,e7 wd,e7 mo] 31::e8 qb6 [.slice ea es.length ec] 28::e8 qb5 [e7 nd] 3::e8 b3 [e7 0,.slice none 0 0] 48::e8 b2 [e7 tq] 3::e8 b1 [e7 kd,e7 wd,e7 mo] 31::I)
     have hX:X=atG kd wd mo es tq:=(hq rfl).2.1.trans (at_end (hq rfl).2.2)
     have hgn:=(hq rfl).1
     refine Ak (Aj (Ah (Gl2 ty48 ?_)))
     refine Ge0 (Cd ty48) ?_
     refine Ga C (Af (Aw ?_))
     rw [hX,hgn]
     refine V.fit (J:=dfrI Dm::e8 b4 [e7 nd,.slice a (atG kd wd mo es tq).length c] 48::vc 135 (.slice a (atG kd wd mo es tq).length c) ((atG kd wd mo es tq))::e8 qb7 [e7 kd,e7 wd,e7 mo] 31::e8 qb6 [.slice ea es.length ec] 28::e8 qb5 [e7 nd] 3::e8 b3 [e7 nd,.slice a (atG kd wd mo es tq).length c] 48::e8 b2 [e7 tq] 3::e8 b1 [e7 kd,e7 wd,e7 mo] 31::I) B4 (V.leave ?_)
     exact Dq C ty48 C C mm C (vc 135 (.slice a (atG kd wd mo es tq).length c) (atG kd wd mo es tq)::I) B4 ⟨a,c,rfl,rfl⟩
    ·have hQ:(gn=nd/\X=atG kd wd mo es tq):=hp
     refine .inr ⟨_,_,rfl,?_⟩
     show W prog κ _ _ _ ([(32,.func (.func 165) #[] #[.pointer (some ⟨qb5,0,none⟩),.pointer (some ⟨qb6,0,none⟩),.pointer (some ⟨qb7,0,none⟩)]),(31,.agg #[e7 kd,e7 wd,e7 mo]),(30,.slice ea es.length ec),(29,e7 nd),(11,.pointer (some ⟨b4,0,none⟩)),(27,.bool (decide (1048576<tq))),(8,.pointer (some ⟨b3,0,none⟩)),(7,.pointer (some ⟨b2,0,none⟩)),(6,.pointer (some ⟨b1,0,none⟩)),(0,e7 nd),(1,.slice ea es.length ec)]:Env) (dfrI Dm::e8 b4 [e7 gn,.slice a X.length c] 48::vc 135 (.slice a X.length c) (X)::e8 qb7 [e7 kd,e7 wd,e7 mo] 31::e8 qb6 [.slice ea es.length ec] 28::e8 qb5 [e7 nd] 3::e8 b3 [e7 0,.slice none 0 0] 48::e8 b2 [e7 tq] 3::e8 b1 [e7 kd,e7 wd,e7 mo] 31::I)
     have hX:=hQ.2
     have hgn:=hQ.1
     refine Bs (A7 (Aj (Ah (Gl2 ty48 ?_))))
     refine Ge0 (Cd ty48) ?_
     refine Ga C (Af (Aw ?_))
     rw [hX,hgn]
     refine V.fit (J:=dfrI Dm::e8 b4 [e7 nd,.slice a (atG kd wd mo es tq).length c] 48::vc 135 (.slice a (atG kd wd mo es tq).length c) ((atG kd wd mo es tq))::e8 qb7 [e7 kd,e7 wd,e7 mo] 31::e8 qb6 [.slice ea es.length ec] 28::e8 qb5 [e7 nd] 3::e8 b3 [e7 nd,.slice a (atG kd wd mo es tq).length c] 48::e8 b2 [e7 tq] 3::e8 b1 [e7 kd,e7 wd,e7 mo] 31::I) B4 (V.leave ?_)
     exact Dq C ty48 C C mm C (vc 135 (.slice a (atG kd wd mo es tq).length c) (atG kd wd mo es tq)::I) B4 ⟨a,c,rfl,rfl⟩
end Go.Sl
