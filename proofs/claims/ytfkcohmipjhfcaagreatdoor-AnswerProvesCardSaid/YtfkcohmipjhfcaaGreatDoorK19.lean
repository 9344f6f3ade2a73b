/- A part of the proofs of statements of this seat: contracts of functions, and the plain laws that they lean on. No conditions. -/
import Derived.Test.YtfkcohmipjhfcaaGreatDoorK18
set_option linter.unusedVariables false
set_option linter.unusedSimpArgs false
set_option linter.unusedSectionVars false
open Go.Proofs.Tryz (prog)
open List (replicate)
namespace Go.Sl
open Go.Proofs
set_option maxRecDepth 4000
theorem best_yes{sup:List Int}{gone:List Bool}{i:Nat}(h:e_ gone i=false)(h2:bestT sup gone i<0\/e_ sup i<e_ sup (bestT sup gone i)):bestT sup gone (i+1)=(i:Int):=by
 conv=>lhs;unfold bestT
 rw [if_pos ⟨h,h2⟩]
theorem best_no{sup:List Int}{gone:List Bool}{i:Nat}(h:e_ gone i=true\/(¬bestT sup gone i<0/\¬e_ sup i<e_ sup (bestT sup gone i))):bestT sup gone (i+1)=bestT sup gone i:=by
 conv=>lhs;unfold bestT
 rw [if_neg]
 rintro ⟨h1,h2⟩
 rcases h with h|h
 ·rw [h] at h1;cases h1
 ·exact h2.elim h.1 h.2
theorem rows_atG{rs:List (RowG Pt)}{tri:List (List Pt)}(h:rs.map RowG.xs=tri){i:Int}(h0:0<=i)(h1:i<rs.length):(e_ rs i).xs=e_ tri i:=by
 subst h
 rw [at_eq h0 h1,at_eq h0 (by rw [List.length_map];exact h1),List.getElem_map]
theorem low_yes{gone:List Bool}{sup:List Int}{p:Pt}(h1:e_ gone p.u=false)(h2:e_ gone p.v=false):lowT gone sup p=(sup.set p.u.toNat (e_ sup p.u - 1)).set p.v.toNat (e_ (sup.set p.u.toNat (e_ sup p.u - 1)) p.v - 1):=by
 unfold lowT;rw [if_pos ⟨h1,h2⟩]
theorem low_no{gone:List Bool}{sup:List Int}{p:Pt}(h:e_ gone p.u=true\/e_ gone p.v=true):lowT gone sup p=sup:=by
 unfold lowT;rw [if_neg]
 rintro ⟨h1,h2⟩
 rcases h with h|h
 ·rw [h] at h1;cases h1
 ·rw [h] at h2;cases h2
set_option maxHeartbeats 2000000 in
theorem TPeel_ok{κ:Ctx}{I:List Item}{nd:Int}{va:Value}{es:List Pt}(hl:Sl κ I va es)(hG:GrOk nd es)(hb:es.length<=1000000)(hT:TabRd κ I 0 tzCells):eu prog κ 222 [.agg #[e7 nd,va]] I (λr J=>∃a c a' c',r = .tuple #[.slice a (trussO (trisE nd es)).length c,.slice a' (trussN (trisE nd es)).length c']/\J=vc 3 (.slice a (trussO (trisE nd es)).length c) (trussO (trisE nd es))::vc 3 (.slice a' (trussN (trisE nd es)).length c') (trussN (trisE nd es))::I):=by
 have hrng:=hG.rng
 have hTok:=tris_ok hG
 have htes:(trisE nd es).length=es.length:=List.length_map ..
 refine Ce1 Tryz.func222 C C ?_
 refine Ai (Ge1 (A9 (cs:=[_,_]) C C C) λb1=>Ga C (Ga C (Af (Ai (Gl2 ty48 ?_)))))
 refine G.e (Ah call276 C C (Triangles_ok (nd:=nd) (Ba hl) hG om (Bx hT A3))) ?_
 rintro _ _ ⟨_,_,⟨ad2,cp3,rs4,rfl,hrs4,rfl⟩,rfl,rfl⟩
 have htl:rs4.length=(trisE nd es).length:=by rw [←hrs4,List.length_map]
 refine G.fit (J:=vc 65 (.slice ad2 rs4.length cp3) (rs4)::e8 b1 [e7 nd,va] 48::(rgI rs4++I)) (Fit.perm (List.Perm.cons _ (perm_fr (A:=rgI rs4) (L:=[e8 b1 [e7 nd,va] 48]) (T:=I)))) ?_
 show G prog κ _ _ _ _ ([(16,.slice ad2 rs4.length cp3),(15,.agg #[e7 nd,va]),(3,.slice none 0 0),(2,.slice none 0 0),(1,.pointer (some ⟨b1,0,none⟩)),(0,.agg #[e7 nd,va])]:Env) (vc 65 (.slice ad2 rs4.length cp3) (rs4)::e8 b1 [e7 nd,va] 48::(rgI rs4++I))
 refine Ga C (Af (Ai (Gm C (Gr (Bs Du C) (Ga C (Af (Ai (Gm C (Ge2 (Cp (α:=Int) (n:=rs4.length) Ac ef C C C om om dc C) λad5 cp6=>?_)))))))))
 refine Ga C (Af (Ap (Ai (Gm C (Gr (Bs Du C) (Gm C (Af (Aq (S7 23 22 21 6 5 4 2 C C C C C C C) (A0 (B1 (σ:=Nat×(List Int)) (λs=>([(2,.slice none 0 0),(4,.slice ad2 rs4.length cp3),(5,e7 ((rs4.length:Nat):Int)),(6,.slice ad5 (replicate rs4.length (default:Int)).length cp6),(21,.slice ad2 rs4.length cp3),(22,e7 ((rs4.length:Nat):Int)),(23,e7 ((s.1:Nat):Int))]:Env)) (λs=>vc 3 (.slice ad5 (replicate rs4.length (default:Int)).length cp6) (s.2)::vc 65 (.slice ad2 rs4.length cp3) (rs4)::e8 b1 [e7 nd,va] 48::(rgI rs4++I)) (λs=>(s.1<=rs4.length)/\(s.2.length=rs4.length)/\(∀i:Nat,i<s.1->e_ s.2 i=(((e_ rs4 i).xs.length:Nat):Int))) (λs=>rs4.length - s.1) (0,replicate rs4.length (default:Int)) (show ((0:Nat)<=rs4.length)/\((replicate rs4.length (default:Int):List Int).length=rs4.length)/\(∀i:Nat,i<(0:Nat)->e_ (replicate rs4.length (default:Int):List Int) (i:Int)=(((e_ rs4 i).xs.length:Nat):Int)) from ⟨om,List.length_replicate,(λi h=>by omega)⟩) (Aa C (Aa C (Aa C (Aa C (Aa C (Aa C (Aa (Dc C (by first|omega|rfl|((try dsimp only);first|exact best_yes (by simpa using g50) (by first|exact .inl g53|exact .inr c64)|exact (best_yes (by simpa using g50) (by first|exact .inl g53|exact .inr c64)).symm|exact best_no (by first|(left;simpa using g50)|exact .inr ⟨g53,c64⟩)|exact (best_no (by first|(left;simpa using g50)|exact .inr ⟨g53,c64⟩)).symm))) Bp))))))) (show Fit κ _ (vc 3 (.slice ad5 (replicate rs4.length (default:Int)).length cp6) ((replicate rs4.length (default:Int)))::vc 65 (.slice ad2 rs4.length cp3) (rs4)::e8 b1 [e7 nd,va] 48::(rgI rs4++I)) from A1) ?_))))))))))
 rintro ⟨k,sup⟩ hp
 dsimp only at hp ⊢
 obtain ⟨hk,hsl,hsv⟩:=hp
 refine Ai (Gr (A7 C C) (Af (Ap (A8 C (λc24=>?_) (λc24=>?_)))))
 ·refine Ay (Aj (Ap (A0 (Ai (Gm C (Gr (Az (α:=(RowG Pt)) (xs:=rs4) Du ty65 C C Bk om oo) (Gr (Dj (α:=(RowG Pt)) (xs:=rs4) (u:= .slice (e_ rs4 k).a (e_ rs4 k).xs.length (e_ rs4 k).c) ty65 C Bk om oo C) (Ga C (Ga C (Af (Ax (Gm C (Gm C (Gm C (Gr (Bs Ch C) (Gr (Az (α:=Int) (xs:=sup) Ac ef C C Bk om oo) (Ge0 (Cx (α:=Int) (xs:=sup) (e:=3) (new:=(((e_ rs4 k).xs.length:Nat):Int)) ef C C C om oo am) ?_)))))))))))))))))
  exact Bi (Ak (Aj (Aq (S7 2 4 5 6 21 22 23 C C C C C C C) (Ax (Gr (Rad C C) (Gm C (Bi (B5 ((k+1),(List.set sup ((k:Int)).toNat ((((e_ rs4 k).xs.length:Nat):Int)))) (by dsimp only;exact ⟨om,(by rw [List.length_set];exact hsl),(λi h=>by rw [C8 _ _ _ _ om om om];by_cases e:i=k;(· subst e;rw [if_pos rfl]);(· rw [if_neg om];exact hsv i om))⟩) (hL:=(Aa C (Aa C (Aa C (Aa C (Aa C (Aa C (Aa (Dc C (by first|omega|rfl|((try dsimp only);first|exact best_yes (by simpa using g50) (by first|exact .inl g53|exact .inr c64)|exact (best_yes (by simpa using g50) (by first|exact .inl g53|exact .inr c64)).symm|exact best_no (by first|(left;simpa using g50)|exact .inr ⟨g53,c64⟩)|exact (best_no (by first|(left;simpa using g50)|exact .inr ⟨g53,c64⟩)).symm))) Bp))))))))))))))))
 ·refine Bv (Al (Al (A5 (Aj (Ai (Gm C ?_))))))
  have hsup:sup=(startT (trisE nd es)).sup:=by refine ext_at (by rw [hsl,htl];exact (List.length_map ..).symm) (λi hi=>?_);rw [hsv i om,rows_atG hrs4 om om];show _=e_ ((trisE nd es).map λl=>(l.length:Int)) (i:Int);rw [C4 _ _ (show i<(trisE nd es).length by omega),C4 _ _ (by rw [List.length_map];omega),List.getElem_map]
  refine Ge2 (Cp (α:=Bool) (n:=rs4.length) Co ty4 C C C om om dc C) λad7 cp8=>?_
  refine Ga C (Af (Ai (Gm C (Ge2 (Cp (α:=Int) (n:=rs4.length) Ac ef C C C om om dc C) λad9 cp10=>?_))))
  refine Ga C (Af (Aq (S6 3 9 2 4 5 6 C C C C C C) (Ai (Ga C (Af (Ap (Ai (Gm C (Gm C (Af (A0 (B1 (σ:=Nat×TrS×(Option Addr)×Nat) (λs=>([(2,.slice s.2.2.1 s.2.1.ord.length s.2.2.2),(3,.slice ad9 (replicate rs4.length (default:Int)).length cp10),(4,.slice ad2 rs4.length cp3),(5,e7 ((rs4.length:Nat):Int)),(6,.slice ad5 (replicate rs4.length (default:Int)).length cp6),(9,.slice ad7 (replicate rs4.length (default:Bool)).length cp8),(10,e7 (s.2.1.k)),(38,e7 ((rs4.length:Nat):Int)),(39,e7 ((s.1:Nat):Int))]:Env)) (λs=>vc 3 (.slice s.2.2.1 s.2.1.ord.length s.2.2.2) (s.2.1.ord)::vc 3 (.slice ad9 (replicate rs4.length (default:Int)).length cp10) (s.2.1.num)::vc 4 (.slice ad7 (replicate rs4.length (default:Bool)).length cp8) (s.2.1.gone)::vc 3 (.slice ad5 (replicate rs4.length (default:Int)).length cp6) (s.2.1.sup)::vc 65 (.slice ad2 rs4.length cp3) (rs4)::e8 b1 [e7 nd,va] 48::(rgI rs4++I)) (λs=>(s.1<=rs4.length)/\(s.2.1=runTr (trisE nd es) s.1)/\(TrOk (nd.toNat - 1) (trisE nd es).length s.1 s.2.1)) (λs=>rs4.length - s.1) (0,(startT (trisE nd es)),none,0) (show ((0:Nat)<=rs4.length)/\(((startT (trisE nd es)):TrS)=runTr (trisE nd es) (0:Nat))/\(TrOk (nd.toNat - 1) (trisE nd es).length (0:Nat) ((startT (trisE nd es)):TrS)) from ⟨om,rfl,(TrOk.start hTok)⟩) (Aa (Dl C (by first|rfl|simp)) (Aa C (Aa C (Aa C (Aa C (Aa C (Aa (Dc C (by first|omega|rfl|((try dsimp only);first|exact best_yes (by simpa using g50) (by first|exact .inl g53|exact .inr c64)|exact (best_yes (by simpa using g50) (by first|exact .inl g53|exact .inr c64)).symm|exact best_no (by first|(left;simpa using g50)|exact .inr ⟨g53,c64⟩)|exact (best_no (by first|(left;simpa using g50)|exact .inr ⟨g53,c64⟩)).symm))) (Aa C (Aa (Dc C (by first|omega|rfl|((try dsimp only);first|exact best_yes (by simpa using g50) (by first|exact .inl g53|exact .inr c64)|exact (best_yes (by simpa using g50) (by first|exact .inl g53|exact .inr c64)).symm|exact best_no (by first|(left;simpa using g50)|exact .inr ⟨g53,c64⟩)|exact (best_no (by first|(left;simpa using g50)|exact .inr ⟨g53,c64⟩)).symm))) Bp))))))))) (show Fit κ _ (vc 3 (.slice none ((startT (trisE nd es))).ord.length 0) (((startT (trisE nd es))).ord)::vc 3 (.slice ad9 (replicate rs4.length (default:Int)).length cp10) (((startT (trisE nd es))).num)::vc 4 (.slice ad7 (replicate rs4.length (default:Bool)).length cp8) (((startT (trisE nd es))).gone)::vc 3 (.slice ad5 (replicate rs4.length (default:Int)).length cp6) (((startT (trisE nd es))).sup)::vc 65 (.slice ad2 rs4.length cp3) (rs4)::e8 b1 [e7 nd,va] 48::(rgI rs4++I)) from (by rw [←hsup];exact Cn (B2 (α:=Int) _ _) (by rw [htl];exact B7))) ?_))))))))))))
  rintro ⟨j,tr,ao,co⟩ hp
  dsimp only at hp ⊢
  obtain ⟨hj,htr,hok⟩:=hp
  have hsn:=hok.slen
  have hgn:=hok.glen
  have hnn:=hok.nlen
  have hon:=hok.olen
  have hkb:=hok.k
  have hmj:2*(((nd.toNat - 1:Nat)):Int)*(j:Int)<=126*(j:Int):=Int.mul_le_mul_of_nonneg_right om om
  refine Ai (Gr (A7 C C) (Af (Ap (A8 C (λc40=>?_) (λc40=>?_)))))
  ·refine Ay (Aj (Ap (A0 (Ai (Ga C (Af (Ap (Ai (Gm C (Gm C (Af (A0 (B1 (σ:=Nat) (λs=>([(2,.slice ao tr.ord.length co),(3,.slice ad9 (replicate rs4.length (default:Int)).length cp10),(4,.slice ad2 rs4.length cp3),(5,e7 ((rs4.length:Nat):Int)),(6,.slice ad5 (replicate rs4.length (default:Int)).length cp6),(9,.slice ad7 (replicate rs4.length (default:Bool)).length cp8),(10,e7 (tr.k)),(11,e7 (bestT tr.sup tr.gone s)),(38,e7 ((rs4.length:Nat):Int)),(39,e7 ((j:Int))),(41,e7 ((rs4.length:Nat):Int)),(42,e7 ((s:Nat):Int))]:Env)) (λs=>vc 3 (.slice ao tr.ord.length co) (tr.ord)::vc 3 (.slice ad9 (replicate rs4.length (default:Int)).length cp10) (tr.num)::vc 4 (.slice ad7 (replicate rs4.length (default:Bool)).length cp8) (tr.gone)::vc 3 (.slice ad5 (replicate rs4.length (default:Int)).length cp6) (tr.sup)::vc 65 (.slice ad2 rs4.length cp3) (rs4)::e8 b1 [e7 nd,va] 48::(rgI rs4++I)) (λs=>(s<=rs4.length)) (λs=>rs4.length - s) 0 (show ((0:Nat)<=rs4.length) from om) (Aa C (Aa C (Aa C (Aa C (Aa C (Aa C (Aa C (Aa (Dc C (by first|omega|rfl|((try dsimp only);first|exact best_yes (by simpa using g50) (by first|exact .inl g53|exact .inr c64)|exact (best_yes (by simpa using g50) (by first|exact .inl g53|exact .inr c64)).symm|exact best_no (by first|(left;simpa using g50)|exact .inr ⟨g53,c64⟩)|exact (best_no (by first|(left;simpa using g50)|exact .inr ⟨g53,c64⟩)).symm))) (Aa C (Aa C (Aa C (Aa (Dc C (by first|omega|rfl|((try dsimp only);first|exact best_yes (by simpa using g50) (by first|exact .inl g53|exact .inr c64)|exact (best_yes (by simpa using g50) (by first|exact .inl g53|exact .inr c64)).symm|exact best_no (by first|(left;simpa using g50)|exact .inr ⟨g53,c64⟩)|exact (best_no (by first|(left;simpa using g50)|exact .inr ⟨g53,c64⟩)).symm))) Bp)))))))))))) (show Fit κ _ (vc 3 (.slice ao tr.ord.length co) (tr.ord)::vc 3 (.slice ad9 (replicate rs4.length (default:Int)).length cp10) (tr.num)::vc 4 (.slice ad7 (replicate rs4.length (default:Bool)).length cp8) (tr.gone)::vc 3 (.slice ad5 (replicate rs4.length (default:Int)).length cp6) (tr.sup)::vc 65 (.slice ad2 rs4.length cp3) (rs4)::e8 b1 [e7 nd,va] 48::(rgI rs4++I)) from A1) ?_)))))))))))))
   rintro i2 hp
   have hi2:=hp
   have hbl:=bestT_lt tr.sup tr.gone i2
   refine Ai (Gr (A7 C C) (Af (Ap (A8 C (λc43=>?_) (λc43=>?_)))))
   ·refine Ay (Aj (Ap (A0 (Ai (Gm C (Ga C (Af (Aq (S13 12 2 3 4 5 6 9 10 11 38 39 41 42 C C C C C C C C C C C C C) (Ap (Bl mixed (Bt (vc 3 (.slice ao tr.ord.length co) (tr.ord)::vc 3 (.slice ad9 (replicate rs4.length (default:Int)).length cp10) (tr.num)::vc 4 (.slice ad7 (replicate rs4.length (default:Bool)).length cp8) (tr.gone)::vc 3 (.slice ad5 (replicate rs4.length (default:Int)).length cp6) (tr.sup)::vc 65 (.slice ad2 rs4.length cp3) (rs4)::e8 b1 [e7 nd,va] 48::(rgI rs4++I)) 20 (Dr 0 C (Ad C) (Dr 1 C (Ad C) (Dr 2 C (Az (α:=Bool) (xs:=tr.gone) Co ty4 C C Bk om oo) (Dr 3 C (Runs.getB (xs:=tr.gone) ty4 C Bk om oo) (Dr 4 C (B4 C) (Dr 5 C (Ad C) (D.splitb (d:=50) C (λg50=>?_) (λg50=>?_)))))))))))))))))))
    ·refine Dro 6 C (Ad C) (Dro 7 C (A7 C C) (Dro 8 C (Ad C) (Cs (d:=53) C (λg53=>?_) (λg53=>?_))))
     ·exact Dpo 9 C (Dpo 10 C (Dpo 11 C (Dpo 12 C (Dpo 13 C (Dpo 14 C (Dpo 15 C (Dpo 16 C (Dpo 17 C (Dro 18 C (Ar C C) (Dr 19 C (Ar C C) (Dz (Aj (Aq (S14 64 12 2 3 4 5 6 9 10 11 38 39 41 42 C C C C C C C C C C C C C C) (Cq C (Ax (Gm C (Ga C (Bi (Ak (Aj (Aq (S12 11 2 3 4 5 6 9 10 38 39 41 42 C C C C C C C C C C C C) (Ax (Gr (Rad C C) (Gm C (Bi (B5 ((i2+1)) om (hL:=(Aa C (Aa C (Aa C (Aa C (Aa C (Aa C (Aa C (Aa (Dc C (by first|omega|rfl|((try dsimp only);first|exact best_yes (by simpa using g50) (by first|exact .inl g53|exact .inr c64)|exact (best_yes (by simpa using g50) (by first|exact .inl g53|exact .inr c64)).symm|exact best_no (by first|(left;simpa using g50)|exact .inr ⟨g53,c64⟩)|exact (best_no (by first|(left;simpa using g50)|exact .inr ⟨g53,c64⟩)).symm))) (Aa C (Aa C (Aa C (Aa (Dc C (by first|omega|rfl|((try dsimp only);first|exact best_yes (by simpa using g50) (by first|exact .inl g53|exact .inr c64)|exact (best_yes (by simpa using g50) (by first|exact .inl g53|exact .inr c64)).symm|exact best_no (by first|(left;simpa using g50)|exact .inr ⟨g53,c64⟩)|exact (best_no (by first|(left;simpa using g50)|exact .inr ⟨g53,c64⟩)).symm))) Bp)))))))))))))))))))))))))))))))))))))))
     ·refine Dro 9 C (Ad C) (Dro 10 C (Ad C) (Dro 11 C (Az (α:=Int) (xs:=tr.sup) Ac ef C C Bk om oo) (Dro 12 C (Bo (xs:=tr.sup) ef C Bk om oo) (Dro 13 C (Ad C) (Dro 14 C (Ad C) (Dro 15 C (Az (α:=Int) (xs:=tr.sup) Ac ef C C Bk om oo) (Dro 16 C (Bo (xs:=tr.sup) ef C Bk om oo) (Dro 17 C (A7 C C) (Dro 18 C (Ao C C) (Dr 19 C (Ar C C) (Dz (Aj (Aq (S14 64 12 2 3 4 5 6 9 10 11 38 39 41 42 C C C C C C C C C C C C C C) (A8 C (λc64=>?_) (λc64=>?_)))))))))))))))
      ·exact Ax (Gm C (Ga C (Bi (Ak (Aj (Aq (S12 11 2 3 4 5 6 9 10 38 39 41 42 C C C C C C C C C C C C) (Ax (Gr (Rad C C) (Gm C (Bi (B5 ((i2+1)) om (hL:=(Aa C (Aa C (Aa C (Aa C (Aa C (Aa C (Aa C (Aa (Dc C (by first|omega|rfl|((try dsimp only);first|exact best_yes (by simpa using g50) (by first|exact .inl g53|exact .inr c64)|exact (best_yes (by simpa using g50) (by first|exact .inl g53|exact .inr c64)).symm|exact best_no (by first|(left;simpa using g50)|exact .inr ⟨g53,c64⟩)|exact (best_no (by first|(left;simpa using g50)|exact .inr ⟨g53,c64⟩)).symm))) (Aa C (Aa C (Aa C (Aa (Dc C (by first|omega|rfl|((try dsimp only);first|exact best_yes (by simpa using g50) (by first|exact .inl g53|exact .inr c64)|exact (best_yes (by simpa using g50) (by first|exact .inl g53|exact .inr c64)).symm|exact best_no (by first|(left;simpa using g50)|exact .inr ⟨g53,c64⟩)|exact (best_no (by first|(left;simpa using g50)|exact .inr ⟨g53,c64⟩)).symm))) Bp))))))))))))))))))))))))
      ·exact Ay (Ak (Aj (Aq (S12 2 3 4 5 6 9 10 11 38 39 41 42 C C C C C C C C C C C C) (Ax (Gr (Rad C C) (Gm C (Bi (B5 ((i2+1)) om (hL:=(Aa C (Aa C (Aa C (Aa C (Aa C (Aa C (Aa C (Aa (Dc C (by first|omega|rfl|((try dsimp only);first|exact best_yes (by simpa using g50) (by first|exact .inl g53|exact .inr c64)|exact (best_yes (by simpa using g50) (by first|exact .inl g53|exact .inr c64)).symm|exact best_no (by first|(left;simpa using g50)|exact .inr ⟨g53,c64⟩)|exact (best_no (by first|(left;simpa using g50)|exact .inr ⟨g53,c64⟩)).symm))) (Aa C (Aa C (Aa C (Aa (Dc C (by first|omega|rfl|((try dsimp only);first|exact best_yes (by simpa using g50) (by first|exact .inl g53|exact .inr c64)|exact (best_yes (by simpa using g50) (by first|exact .inl g53|exact .inr c64)).symm|exact best_no (by first|(left;simpa using g50)|exact .inr ⟨g53,c64⟩)|exact (best_no (by first|(left;simpa using g50)|exact .inr ⟨g53,c64⟩)).symm))) Bp)))))))))))))))))))))
    ·exact Dpo 6 C (Dpo 7 C (Dpo 8 C (Dpu 9 C (Dpu 10 C (Dpu 11 C (Dpu 12 C (Dpu 13 C (Dpu 14 C (Dpu 15 C (Dpu 16 C (Dpu 17 C (Dpo 18 C (Dr 19 C (Ao C C) (Dz (Aj (Aq (S14 64 12 2 3 4 5 6 9 10 11 38 39 41 42 C C C C C C C C C C C C C C) (C2 C (Ay (Ak (Aj (Aq (S12 2 3 4 5 6 9 10 11 38 39 41 42 C C C C C C C C C C C C) (Ax (Gr (Rad C C) (Gm C (Bi (B5 ((i2+1)) om (hL:=(Aa C (Aa C (Aa C (Aa C (Aa C (Aa C (Aa C (Aa (Dc C (by first|omega|rfl|((try dsimp only);first|exact best_yes (by simpa using g50) (by first|exact .inl g53|exact .inr c64)|exact (best_yes (by simpa using g50) (by first|exact .inl g53|exact .inr c64)).symm|exact best_no (by first|(left;simpa using g50)|exact .inr ⟨g53,c64⟩)|exact (best_no (by first|(left;simpa using g50)|exact .inr ⟨g53,c64⟩)).symm))) (Aa C (Aa C (Aa C (Aa (Dc C (by first|omega|rfl|((try dsimp only);first|exact best_yes (by simpa using g50) (by first|exact .inl g53|exact .inr c64)|exact (best_yes (by simpa using g50) (by first|exact .inl g53|exact .inr c64)).symm|exact best_no (by first|(left;simpa using g50)|exact .inr ⟨g53,c64⟩)|exact (best_no (by first|(left;simpa using g50)|exact .inr ⟨g53,c64⟩)).symm))) Bp)))))))))))))))))))))))))))))))))))))))
   ·refine Bv (Al (Al (A5 (Aj (Ai (Gm C ?_))))))
    obtain ⟨b,hbI⟩:∃b,bestT tr.sup tr.gone i2=b:=⟨_,rfl⟩
    have hbE:bestT tr.sup tr.gone (trisE nd es).length=b:=by rw [←hbI,show i2=(trisE nd es).length by omega]
    have hb0:=hok.best om
    rw [hbE] at hb0
    rw [hbI]
    have hsb:=hok.sup _ (Bf (xs:=tr.sup) (i:=b) hb0.1 om)
    refine Gm C (Gm C (Gr (Az (α:=Int) (xs:=tr.sup) Ac ef C C Bk om oo) (Gr (Bo (xs:=tr.sup) ef C Bk om oo) (Gr (D2 C C) ?_))))
    have hmx:(if tr.k<(e_ tr.sup b) then (e_ tr.sup b) else tr.k)=(max tr.k (e_ tr.sup b)):=by split<;>omega
    rw [hmx]
    refine Ga C (Af (Aq (S10 10 2 3 4 5 6 9 11 38 39 C C C C C C C C C C) (Ai (Gm C (Gm C (Gm C (Gm C (Gm C (Gr (Az (α:=Int) (xs:=tr.num) Ac ef C C Bk om oo) (Ge0 (Cx (α:=Int) (xs:=tr.num) (e:=3) (new:=(max tr.k (e_ tr.sup b))) ef C C C om oo am) ?_))))))))))
    refine Gr (Az (α:=Bool) (xs:=tr.gone) Co ty4 C C Bk om oo) (Ge0 (Cx (α:=Bool) (xs:=tr.gone) (e:=4) (new:=true) ty4 C C C om oo am) ?_)
    refine Af (Aq (S10 10 2 3 4 5 6 9 11 38 39 C C C C C C C C C C) (Ai (Gm C (Gm C (Ge1 (Cf (α:=Int) (cs:=[_]) (xs:=[b]) Ac ef C C dc dc C C C C) λad11=>?_)))))
    refine Ge2 (Cm (α:=Int) (e:=3) (xs:=tr.ord) (ys:=([b]:List Int)) Ac ef C C C mm Bk lcn dc C (λ_ _=>am)) λad12 cp13=>?_
    refine Ga C (Af (Aq (S10 2 10 3 4 5 6 9 11 38 39 C C C C C C C C C C) (Ai (Gm C (Gm C (Gr (Az (α:=(RowG Pt)) (xs:=rs4) Du ty65 C C Bk om oo) (Gr (Dj (α:=(RowG Pt)) (xs:=rs4) (u:= .slice (e_ rs4 b).a (e_ rs4 b).xs.length (e_ rs4 b).c) ty65 C Bk om oo C) (Gr (Bs Ch C) (Gm C (Af (Aq (S12 89 88 87 2 10 3 4 5 6 9 38 39 C C C C C C C C C C C C) (A0 (B1 (σ:=Nat×(List Int)) (λs=>([(2,.slice ad12 (tr.ord++([b]:List Int)).length cp13),(3,.slice ad9 (replicate rs4.length (default:Int)).length cp10),(4,.slice ad2 rs4.length cp3),(5,e7 ((rs4.length:Nat):Int)),(6,.slice ad5 (replicate rs4.length (default:Int)).length cp6),(9,.slice ad7 (replicate rs4.length (default:Bool)).length cp8),(10,e7 ((max tr.k (e_ tr.sup b)))),(38,e7 ((rs4.length:Nat):Int)),(39,e7 ((j:Nat):Int)),(87,.slice (e_ rs4 b).a (e_ rs4 b).xs.length (e_ rs4 b).c),(88,e7 ((((e_ rs4 b).xs.length:Nat):Int))),(89,e7 ((s.1:Nat):Int))]:Env)) (λs=>vc 3 (.slice ad11 1 1) (([b]:List Int))::vc 3 (.slice ad12 (tr.ord++([b]:List Int)).length cp13) (tr.ord++([b]:List Int))::vc 3 (.slice ad9 (replicate rs4.length (default:Int)).length cp10) (List.set tr.num (b).toNat ((max tr.k (e_ tr.sup b))))::vc 4 (.slice ad7 (replicate rs4.length (default:Bool)).length cp8) (List.set tr.gone (b).toNat (true))::vc 3 (.slice ad5 (replicate rs4.length (default:Int)).length cp6) (s.2)::vc 65 (.slice ad2 rs4.length cp3) (rs4)::e8 b1 [e7 nd,va] 48::(rgI rs4++I)) (λs=>(s.1<=(e_ rs4 b).xs.length)/\(s.2=((e_ rs4 b).xs.take s.1).foldl (lowT (List.set tr.gone (b).toNat (true))) tr.sup)/\(s.2.length=(trisE nd es).length)/\(∀x∈s.2, -(126*((j:Nat):Int)) - 2*((s.1:Nat):Int)<=x/\x<=64)) (λs=>(e_ rs4 b).xs.length - s.1) (0,tr.sup) (show ((0:Nat)<=(e_ rs4 b).xs.length)/\((tr.sup:List Int)=((e_ rs4 b).xs.take (0:Nat)).foldl (lowT (List.set tr.gone (b).toNat (true))) tr.sup)/\((tr.sup:List Int).length=(trisE nd es).length)/\(∀x∈(tr.sup:List Int), -(126*((j:Nat):Int)) - 2*(((0:Nat):Nat):Int)<=x/\x<=64) from ⟨om,rfl,hsn,(λx hx=>by have:=hok.sup x hx;omega)⟩) (Aa C (Aa C (Aa C (Aa C (Aa C (Aa C (Aa C (Aa C (Aa C (Aa C (Aa C (Aa (Dc C (by first|omega|rfl|((try dsimp only);first|exact best_yes (by simpa using g50) (by first|exact .inl g53|exact .inr c64)|exact (best_yes (by simpa using g50) (by first|exact .inl g53|exact .inr c64)).symm|exact best_no (by first|(left;simpa using g50)|exact .inr ⟨g53,c64⟩)|exact (best_no (by first|(left;simpa using g50)|exact .inr ⟨g53,c64⟩)).symm))) Bp)))))))))))) (show Fit κ _ (vc 3 (.slice ad11 1 1) (([b]:List Int))::vc 3 (.slice ad12 (tr.ord++([b]:List Int)).length cp13) (tr.ord++([b]:List Int))::vc 3 (.slice ad9 (replicate rs4.length (default:Int)).length cp10) (List.set tr.num (b).toNat ((max tr.k (e_ tr.sup b))))::vc 4 (.slice ad7 (replicate rs4.length (default:Bool)).length cp8) (List.set tr.gone (b).toNat (true))::vc 3 (.slice ad5 (replicate rs4.length (default:Int)).length cp6) ((tr.sup))::vc 65 (.slice ad2 rs4.length cp3) (rs4)::e8 b1 [e7 nd,va] 48::(rgI rs4++I)) from A1) ?_)))))))))))))
    rintro ⟨q,sup1⟩ hp
    dsimp only at hp ⊢
    obtain ⟨hq,hs1,hs1l,hsr⟩:=hp
    have hrb:(e_ rs4 b).xs∈(trisE nd es):=by rw [rows_atG hrs4 hb0.1 om];exact Bf hb0.1 hb0.2.1
    have hrl:=hTok.len _ hrb
    have hgl2:(List.set tr.gone (b).toNat (true)).length=(trisE nd es).length:=by rw [List.length_set];exact hgn
    have hpr:q<(e_ rs4 b).xs.length->0<=(e_ (e_ rs4 b).xs (q:Int)).u/\(e_ (e_ rs4 b).xs (q:Int)).u<(trisE nd es).length/\0<=(e_ (e_ rs4 b).xs (q:Int)).v/\(e_ (e_ rs4 b).xs (q:Int)).v<(trisE nd es).length:=λh=>hTok.rng _ hrb _ (Bf om om)
    refine Ai (Gr (A7 C C) (Af (Ap (A8 C (λc90=>?_) (λc90=>?_)))))
    ·refine Ay (Aj (Ap (A0 (Ai (Gr (Az (α:=Pt) (xs:=(e_ rs4 b).xs) Ch ty64 C C (Sl.vec (by repeat (first|exact rgI_mem (rs:=rs4) (i:=b) om om|apply List.mem_cons_of_mem))) om oo) (Gr (Bz (α:=Pt) (xs:=(e_ rs4 b).xs) ty64 C (Sl.vec (by repeat (first|exact rgI_mem (rs:=rs4) (i:=b) om om|apply List.mem_cons_of_mem))) om oo) ?_))))))
     have hpq:=hpr om
     have hqu:=hsr _ (Bf (xs:=sup1) (i:=(e_ (e_ rs4 b).xs (q:Int)).u) om om)
     refine Ge1 (Au ty64 C) λb14=>Ge0 (Bq ty64) ?_
     refine Af (Aq (S13 14 2 3 4 5 6 9 10 38 39 87 88 89 C C C C C C C C C C C C C) (Ai (Gm C (Gr (Cb B3 ty2 C C om om) (Gl ef ?_)))))
     refine Gr (Az (α:=Bool) (xs:=List.set tr.gone (b).toNat (true)) Co ty4 C C Bk om oo) (Gr (Runs.getB (xs:=List.set tr.gone (b).toNat (true)) ty4 C Bk om oo) (Gr (B4 C) (Gm C (G.splitb (d:=99) C (λg99=>?_) (λg99=>?_)))))
     ·refine e9 (Ad C) (e9 (Cb B3 ty2 C C om om) (e9 (As ef) ?_))
      refine e9 (Az (α:=Bool) (xs:=List.set tr.gone (b).toNat (true)) Co ty4 C C Bk om oo) (e9 (Runs.getB (xs:=List.set tr.gone (b).toNat (true)) ty4 C Bk om oo) (e9 (B4 C) (Gr (Ar C C) (Af (Aq (S14 106 14 2 3 4 5 6 9 10 38 39 87 88 89 C C C C C C C C C C C C C C) (W.cond C (λc106=>?_) (λc106=>?_)))))))
      ·refine Ai (Gm C (Gr (Cb B3 ty2 C C om om) (Gl ef ?_)))
       refine Gr (Az (α:=Int) (xs:=sup1) Ac ef C C Bk om oo) (Gr (Bo (xs:=sup1) ef C Bk om oo) (Gr (Rsu C C) (Gr (Az (α:=Int) (xs:=sup1) Ac ef C C Bk om oo) (Ge0 (Cx (α:=Int) (xs:=sup1) (e:=3) (new:=(e_ sup1 ((e_ ((e_ rs4 b).xs) (q:Int)).u)) - 1) ef C C C om oo am) ?_))))
       have hqv : -(126*(j:Int)) - 2*(q:Int) - 1<=e_ (List.set sup1 ((e_ ((e_ rs4 b).xs) (q:Int)).u).toNat ((e_ sup1 ((e_ ((e_ rs4 b).xs) (q:Int)).u)) - 1)) (e_ (e_ rs4 b).xs (q:Int)).v/\e_ (List.set sup1 ((e_ ((e_ rs4 b).xs) (q:Int)).u).toNat ((e_ sup1 ((e_ ((e_ rs4 b).xs) (q:Int)).u)) - 1)) (e_ (e_ rs4 b).xs (q:Int)).v<=64:=by rw [C8 _ _ _ _ om om om];have:=hsr _ (Bf (xs:=sup1) (i:=(e_ (e_ rs4 b).xs (q:Int)).v) om om);split<;>omega
       refine Af (Aq (S13 14 2 3 4 5 6 9 10 38 39 87 88 89 C C C C C C C C C C C C C) (Ax (Gm C (Gr (Cb B3 ty2 C C om om) (Gl ef ?_)))))
       refine Gr (Az (α:=Int) (xs:=List.set sup1 ((e_ ((e_ rs4 b).xs) (q:Int)).u).toNat ((e_ sup1 ((e_ ((e_ rs4 b).xs) (q:Int)).u)) - 1)) Ac ef C C Bk om oo) (Gr (Bo (xs:=List.set sup1 ((e_ ((e_ rs4 b).xs) (q:Int)).u).toNat ((e_ sup1 ((e_ ((e_ rs4 b).xs) (q:Int)).u)) - 1)) ef C Bk om oo) (Gr (Rsu C C) (Gr (Az (α:=Int) (xs:=List.set sup1 ((e_ ((e_ rs4 b).xs) (q:Int)).u).toNat ((e_ sup1 ((e_ ((e_ rs4 b).xs) (q:Int)).u)) - 1)) Ac ef C C Bk om oo) (Ge0 (Cx (α:=Int) (xs:=List.set sup1 ((e_ ((e_ rs4 b).xs) (q:Int)).u).toNat ((e_ sup1 ((e_ ((e_ rs4 b).xs) (q:Int)).u)) - 1)) (e:=3) (new:=(e_ (List.set sup1 ((e_ ((e_ rs4 b).xs) (q:Int)).u).toNat ((e_ sup1 ((e_ ((e_ rs4 b).xs) (q:Int)).u)) - 1)) ((e_ ((e_ rs4 b).xs) (q:Int)).v)) - 1) ef C C C om oo am) ?_))))
       refine Bi (Ak (Aj (Aq (S12 2 3 4 5 6 9 10 38 39 87 88 89 C C C C C C C C C C C C) (Ax (Gr (Rad C C) (Gm C (Bi ?_)))))))
       have hlow:((e_ rs4 b).xs.take (q+1)).foldl (lowT (List.set tr.gone (b).toNat (true))) tr.sup=lowT (List.set tr.gone (b).toNat (true)) sup1 (e_ (e_ rs4 b).xs (q:Int)):=by rw [C6 _ q om,List.foldl_append,←hs1];rfl
       have hlr:=lowT_rng (gone:=(List.set tr.gone (b).toNat (true))) (p:=(e_ (e_ rs4 b).xs (q:Int))) (by have:=hpr om;omega) hsr
       have hll:=lowT_len (List.set tr.gone (b).toNat (true)) sup1 (e_ (e_ rs4 b).xs (q:Int))
       exact B5 ((q+1),(List.set (List.set sup1 ((e_ ((e_ rs4 b).xs) (q:Int)).u).toNat ((e_ sup1 ((e_ ((e_ rs4 b).xs) (q:Int)).u)) - 1)) ((e_ ((e_ rs4 b).xs) (q:Int)).v).toNat ((e_ (List.set sup1 ((e_ ((e_ rs4 b).xs) (q:Int)).u).toNat ((e_ sup1 ((e_ ((e_ rs4 b).xs) (q:Int)).u)) - 1)) ((e_ ((e_ rs4 b).xs) (q:Int)).v)) - 1))) (by dsimp only;exact ⟨om,(by rw [hlow];first|exact (low_yes (by simpa using g99) (by simpa using c106)).symm|exact (low_no (by first|(left;simpa using g99)|(right;simpa using c106))).symm),(by first|exact hs1l|(simp only [List.length_set];exact hs1l)),(by first|(rw [low_yes (by simpa using g99) (by simpa using c106)] at hlr;exact λx hx=>by have:=hlr x hx;push_cast;omega)|(rw [low_no (by first|(left;simpa using g99)|(right;simpa using c106))] at hlr;exact λx hx=>by have:=hlr x hx;push_cast;omega))⟩) (hL:=(Aa C (Aa C (Aa C (Aa C (Aa C (Aa C (Aa C (Aa C (Aa C (Aa C (Aa C (Aa (Dc C (by first|omega|rfl|((try dsimp only);first|exact best_yes (by simpa using g50) (by first|exact .inl g53|exact .inr c64)|exact (best_yes (by simpa using g50) (by first|exact .inl g53|exact .inr c64)).symm|exact best_no (by first|(left;simpa using g50)|exact .inr ⟨g53,c64⟩)|exact (best_no (by first|(left;simpa using g50)|exact .inr ⟨g53,c64⟩)).symm))) Bp)))))))))))))
      ·refine Ay (Ak (Aj (Aq (S12 2 3 4 5 6 9 10 38 39 87 88 89 C C C C C C C C C C C C) (Ax (Gr (Rad C C) (Gm C (Bi ?_)))))))
       have hlow:((e_ rs4 b).xs.take (q+1)).foldl (lowT (List.set tr.gone (b).toNat (true))) tr.sup=lowT (List.set tr.gone (b).toNat (true)) sup1 (e_ (e_ rs4 b).xs (q:Int)):=by rw [C6 _ q om,List.foldl_append,←hs1];rfl
       have hlr:=lowT_rng (gone:=(List.set tr.gone (b).toNat (true))) (p:=(e_ (e_ rs4 b).xs (q:Int))) (by have:=hpr om;omega) hsr
       have hll:=lowT_len (List.set tr.gone (b).toNat (true)) sup1 (e_ (e_ rs4 b).xs (q:Int))
       exact B5 ((q+1),(sup1)) (by dsimp only;exact ⟨om,(by rw [hlow];first|exact (low_yes (by simpa using g99) (by simpa using c106)).symm|exact (low_no (by first|(left;simpa using g99)|(right;simpa using c106))).symm),(by first|exact hs1l|(simp only [List.length_set];exact hs1l)),(by first|(rw [low_yes (by simpa using g99) (by simpa using c106)] at hlr;exact λx hx=>by have:=hlr x hx;push_cast;omega)|(rw [low_no (by first|(left;simpa using g99)|(right;simpa using c106))] at hlr;exact λx hx=>by have:=hlr x hx;push_cast;omega))⟩) (hL:=(Aa C (Aa C (Aa C (Aa C (Aa C (Aa C (Aa C (Aa C (Aa C (Aa C (Aa C (Aa (Dc C (by first|omega|rfl|((try dsimp only);first|exact best_yes (by simpa using g50) (by first|exact .inl g53|exact .inr c64)|exact (best_yes (by simpa using g50) (by first|exact .inl g53|exact .inr c64)).symm|exact best_no (by first|(left;simpa using g50)|exact .inr ⟨g53,c64⟩)|exact (best_no (by first|(left;simpa using g50)|exact .inr ⟨g53,c64⟩)).symm))) Bp)))))))))))))
     ·refine eb (eb (eb (eb (eb (eb (Gr (Ao C C) (Af (Aq (S14 106 14 2 3 4 5 6 9 10 38 39 87 88 89 C C C C C C C C C C C C C C) (C2 C (Ay (Ak (Aj (Aq (S12 2 3 4 5 6 9 10 38 39 87 88 89 C C C C C C C C C C C C) (Ax (Gr (Rad C C) (Gm C (Bi ?_)))))))))))))))))
      have hlow:((e_ rs4 b).xs.take (q+1)).foldl (lowT (List.set tr.gone (b).toNat (true))) tr.sup=lowT (List.set tr.gone (b).toNat (true)) sup1 (e_ (e_ rs4 b).xs (q:Int)):=by rw [C6 _ q om,List.foldl_append,←hs1];rfl
      have hlr:=lowT_rng (gone:=(List.set tr.gone (b).toNat (true))) (p:=(e_ (e_ rs4 b).xs (q:Int))) (by have:=hpr om;omega) hsr
      have hll:=lowT_len (List.set tr.gone (b).toNat (true)) sup1 (e_ (e_ rs4 b).xs (q:Int))
      exact B5 ((q+1),(sup1)) (by dsimp only;exact ⟨om,(by rw [hlow];first|exact (low_yes (by simpa using g99) (by simpa using c106)).symm|exact (low_no (by first|(left;simpa using g99)|(right;simpa using c106))).symm),(by first|exact hs1l|(simp only [List.length_set];exact hs1l)),(by first|(rw [low_yes (by simpa using g99) (by simpa using c106)] at hlr;exact λx hx=>by have:=hlr x hx;push_cast;omega)|(rw [low_no (by first|(left;simpa using g99)|(right;simpa using c106))] at hlr;exact λx hx=>by have:=hlr x hx;push_cast;omega))⟩) (hL:=(Aa C (Aa C (Aa C (Aa C (Aa C (Aa C (Aa C (Aa C (Aa C (Aa C (Aa C (Aa (Dc C (by first|omega|rfl|((try dsimp only);first|exact best_yes (by simpa using g50) (by first|exact .inl g53|exact .inr c64)|exact (best_yes (by simpa using g50) (by first|exact .inl g53|exact .inr c64)).symm|exact best_no (by first|(left;simpa using g50)|exact .inr ⟨g53,c64⟩)|exact (best_no (by first|(left;simpa using g50)|exact .inr ⟨g53,c64⟩)).symm))) Bp)))))))))))))
    ·refine Bv (Al (Al (A5 (Ak (Aj (Ax (Gr (Rad C C) (Gm C (Bi ?_)))))))))
     have hstp:(TrS.mk sup1 (List.set tr.gone (b).toNat (true)) (List.set tr.num (b).toNat (max tr.k (e_ tr.sup b))) (tr.ord++[b]) (max tr.k (e_ tr.sup b)))=stepTr (trisE nd es) tr:=by unfold stepTr;rw [hbE,hs1,List.take_of_length_le om,rows_atG hrs4 hb0.1 om]
     exact B5 ((j+1),((TrS.mk sup1 (List.set tr.gone (b).toNat (true)) (List.set tr.num (b).toNat (max tr.k (e_ tr.sup b))) (tr.ord++[b]) (max tr.k (e_ tr.sup b)))),(ad12),(cp13)) (by dsimp only;exact ⟨om,(by rw [hstp,htr];rfl),(by rw [hstp];exact hok.step hTok om)⟩) (hL:=(Aa (Dl C (by first|rfl|simp)) (Aa C (Aa C (Aa C (Aa C (Aa C (Aa (Dc C (by first|omega|rfl|((try dsimp only);first|exact best_yes (by simpa using g50) (by first|exact .inl g53|exact .inr c64)|exact (best_yes (by simpa using g50) (by first|exact .inl g53|exact .inr c64)).symm|exact best_no (by first|(left;simpa using g50)|exact .inr ⟨g53,c64⟩)|exact (best_no (by first|(left;simpa using g50)|exact .inr ⟨g53,c64⟩)).symm))) (Aa C (Aa (Dc C (by first|omega|rfl|((try dsimp only);first|exact best_yes (by simpa using g50) (by first|exact .inl g53|exact .inr c64)|exact (best_yes (by simpa using g50) (by first|exact .inl g53|exact .inr c64)).symm|exact best_no (by first|(left;simpa using g50)|exact .inr ⟨g53,c64⟩)|exact (best_no (by first|(left;simpa using g50)|exact .inr ⟨g53,c64⟩)).symm))) Bp))))))))))
  ·refine Bv (Al (Al (A5 (Aj (Ai (Gm C (Gm C (Ga C (Ga C (Af (Aq (S2 3 2 C C) (A2 ?_))))))))))))
   have hje:j=(trisE nd es).length:=by omega
   subst hje
   subst htr
   have hnl:=hok.nlen
   exact Cu C C C (vc 3 (.slice ao (trussO (trisE nd es)).length co) (trussO (trisE nd es))::vc 3 (.slice ad9 (trussN (trisE nd es)).length cp10) (trussN (trisE nd es))::I) (by show Fit κ _ (vc 3 _ _::vc 3 (.slice _ (runTr (trisE nd es) (trisE nd es).length).num.length _) (runTr (trisE nd es) (trisE nd es).length).num::I);rw [hnl];simp only [List.length_replicate,htl];exact B7) ⟨ao,co,ad9,cp10,by show _=Value.tuple #[_,.slice _ (runTr (trisE nd es) (trisE nd es).length).num.length _];rw [hnl];simp only [List.length_replicate,htl];rfl,rfl⟩
def trussG(nd:Int)(es:List Pt):List Int:=if checkG nd es≠0 then [] else trussN (trisE nd es)
theorem TNumbers_ok{κ:Ctx}{I:List Item}{nd:Int}{va:Value}{es:List Pt}(hl:Sl κ I va es)(hb:es.length<=1000000)(hT:TabRd κ I 0 tzCells):eu prog κ 149 [.agg #[e7 nd,va]] I (λr J=>∃a c,r = .tuple #[.slice a (trussG nd es).length c,e7 (checkG nd es)]/\J=vc 3 (.slice a (trussG nd es).length c) (trussG nd es)::I):=by
 refine Ce1 Tryz.func149 C C ?_
 refine Ai (Ge1 (A9 (cs:=[_,_]) C C C) λb1=>Ga C (Ga C (Af (Ap (Ai (Gl2 ty48 ?_))))))
 refine Gc0 (Ah call83 C C (CheckGen_ok (Ba hl))) ?_
 refine Ga C (Af (Ai (Gm C (Gr (Br C C) (Af (A8 C (λc10=>?_) (λc10=>?_)))))))
 ·refine Ai (Gm C (Ga C (Ga C (Af (A2 (Am ?_))))))
  have hX:(trussG nd es)=[]:=if_pos c10
  exact Cu C C C (vc 3 (.slice none (trussG nd es).length 0) (trussG nd es)::I) (by rw [hX];exact Cn (show Fit κ _ I from A3) (B2 (α:=Int) _ _)) ⟨none,0,by rw [hX];rfl,rfl⟩
 ·refine Ay (Aj (Ai (Gl2 ty48 ?_)))
  refine G.e (Ah call222 C C (TPeel_ok (nd:=nd) (Ba hl) (checkG_ok.1 (Classical.not_not.1 c10)) om (Bx hT A3))) ?_
  rintro _ _ ⟨_,_,⟨ad2,cp3,ad4,cp5,rfl,rfl⟩,rfl,rfl⟩
  refine Gm C (Gr (Aw C C) (Gr (Aw C C) (Ga C (Ga C (Af (Aq (S1 6 C) (Ai (Gm C (Ga C (Ga C (Af (A2 ?_))))))))))))
  have hX:(trussG nd es)=_:=if_neg c10
  have hz:checkG nd es=0:=Classical.not_not.1 c10
  exact Cu C C C (vc 3 (.slice ad4 (trussG nd es).length cp5) (trussG nd es)::I) (by rw [hX];exact A1) ⟨ad4,cp5,by rw [hX,hz]<;>rfl,rfl⟩
variable {κ:Ctx}{I:List Item}
theorem nbL_len(es:List Pt)(v:Int):(nbL es v).length<=2*es.length:=by
 induction es with
 |nil=>simp [nbL]
 |cons e es ih=>
  have e1:nbL (e::es) v=((if e.u=v then [e.v] else [])++(if e.v=v then [e.u] else []))++nbL es v:=rfl
  rw [e1,List.length_append,List.length_append,List.length_cons]
  have h1:(if e.u=v then [e.v] else ([]:List Int)).length<=1:=by split<;>simp
  have h2:(if e.v=v then [e.u] else ([]:List Int)).length<=1:=by split<;>simp
  omega
theorem Neigh03_ok{nd:Int}{va:Value}{es:List Pt}(hl:Sl κ I va es)(v:Int)(hb:es.length<=1000000):eu prog κ 115 [.agg #[e7 nd,va],e7 v] I (λr J=>∃a c,r = .slice a (nbG nd es v).length c/\J=vc 3 (.slice a (nbG nd es v).length c) (nbG nd es v)::I):=by
 refine B8 hl.le λhmax=>?_
 refine Ce2 Tryz.func115 C C ?_
 refine Ai (Ge1 (A9 (cs:=[_,_]) C C C) λb1=>Ga C (Af (Ap (Ai (Gl2 ty48 ?_)))))
 refine G.e (Ah call30 C C (Check03G_ok (nd:=nd) (Ba hl))) ?_
 rintro _ _ ⟨_,_,⟨rfl,rfl⟩,rfl,rfl⟩
 refine Gr (Br C C) (Af (A8 C (λc10=>?_) (λc10=>?_)))
 ·refine Ai (Ga C (Af (A2 (Am ?_))))
  have hX:(nbG nd es v)=[]:=if_pos c10
  exact A6 C C (vc 3 (.slice none (nbG nd es v).length 0) (nbG nd es v)::I) (by rw [hX];exact Cn (show Fit κ _ I from A3) (B2 (α:=Int) _ _)) ⟨none,0,by rw [hX];rfl,rfl⟩
 ·refine Ay (Aj (Ai (Ga C (Af (Ap (Ai (Gf fld48_1 C (Gl ty46 ?_))))))))
  refine Gr (B0 (α:=Pt) (xs:=es) Bh C (Ba hl)) (Gm C (Af (A0 (B1 (σ:=Nat×(Option Addr)×Nat×(List Int)) (λs=>([(1,e7 v),(5,.slice s.2.1 s.2.2.2.length s.2.2.1),(12,va),(13,e7 ((es.length:Nat):Int)),(14,e7 ((s.1:Nat):Int))]:Env)) (λs=>vc 3 (.slice s.2.1 s.2.2.2.length s.2.2.1) (s.2.2.2)::e8 b1 [e7 nd,va] 48::I) (λs=>(s.1<=es.length)/\(s.2.2.2=nbL (es.take s.1) v)) (λs=>es.length - s.1) (0,none,0,[]) (show ((0:Nat)<=es.length)/\(([]:List Int)=nbL (es.take (0:Nat)) v) from ⟨om,rfl⟩) (Aa C (Aa (Dl C (by first|rfl|simp)) (Aa C (Aa C (Aa Ca Bp))))) (show Fit κ _ (vc 3 (.slice none ([]).length 0) (([]))::e8 b1 [e7 nd,va] 48::I) from (B2 _ _)) ?_))))
  rintro ⟨k,a,c,out⟩ hp
  dsimp only at hp ⊢
  obtain ⟨hk,ho⟩:=hp
  have hol:out.length<=2*es.length:=by rw [ho];refine Nat.le_trans (nbL_len _ _) ?_;simp only [List.length_take];omega
  refine Ai (Gr (A7 C C) (Af (Ap (A8 C (λc15=>?_) (λc15=>?_)))))
  ·refine Ay (Aj (Ap (A0 (Ai (Gr (Az (α:=Pt) (xs:=es) Bh ty135 C C (Ba hl) om om) (Gr (Bz (α:=Pt) (xs:=es) ty135 C (Ba hl) om om) (Ge1 (Au ty135 C) λb2=>Ge0 (Bq ty135) ?_)))))))
   refine Af (Ap (Ai (Gf fld135_0 C (Gl ef ?_))))
   refine Gm C (Gr (Bu C C) (Af (A8 C (λc21=>?_) (λc21=>?_))))
   ·refine Ax (Gm C (Gf fld135_1 C (Gl ef ?_)))
    refine Ge1 (Cf (α:=Int) (cs:=[_]) (xs:=[(e_ es k).v]) Ac ef C C dc dc C C C C) λad3=>?_
    refine Ge2 (Cm (α:=Int) (e:=3) (xs:=out) (ys:=([(e_ es k).v]:List Int)) Ac ef C C C mm Bk lap dc C (λ_ _=>am)) λad4 cp5=>?_
    refine Ga C (Af (Aq (S6 5 7 1 12 13 14 C C C C C C) (Ai (Gf fld135_1 C (Gl ef ?_)))))
    refine Gm C (Gr (Bu C C) (Af (A8 C (λc30=>?_) (λc30=>?_))))
    ·refine Ax (Gm C (Gf fld135_0 C (Gl ef ?_)))
     refine Ge1 (Cf (α:=Int) (cs:=[_]) (xs:=[(e_ es k).u]) Ac ef C C dc dc C C C C) λad6=>?_
     refine Ge2 (Cm (α:=Int) (e:=3) (xs:=out++([(e_ es k).v]:List Int)) (ys:=([(e_ es k).u]:List Int)) Ac ef C C C mm Bk lap dc C (λ_ _=>am)) λad7 cp8=>?_
     exact Ga C (Bi (Ak (Aj (Aq (S5 5 1 12 13 14 C C C C C) (Ax (Gr (Rad C C) (Gm C (Bi (B5 ((k+1),(ad7),(cp8),((out++([(e_ es k).v]:List Int))++([(e_ es k).u]:List Int))) (by dsimp only;exact ⟨om,(by rw [nbL_take om,←ho];(first|rw [if_pos c21,if_pos c30]|rw [if_pos c21,if_neg c30]|rw [if_neg c21,if_pos c30]|rw [if_neg c21,if_neg c30])<;>simp)⟩))))))))))
    ·exact Ay (Ak (Aj (Ax (Gr (Rad C C) (Gm C (Bi (B5 ((k+1),(ad4),(cp5),(out++([(e_ es k).v]:List Int))) (by dsimp only;exact ⟨om,(by rw [nbL_take om,←ho];(first|rw [if_pos c21,if_pos c30]|rw [if_pos c21,if_neg c30]|rw [if_neg c21,if_pos c30]|rw [if_neg c21,if_neg c30])<;>simp)⟩))))))))
   ·refine Ay (Aj (Ai (Gf fld135_1 C (Gl ef ?_))))
    refine Gm C (Gr (Bu C C) (Af (Aq (S7 30 7 1 5 12 13 14 C C C C C C C) (A8 C (λc30=>?_) (λc30=>?_)))))
    ·refine Ax (Gm C (Gf fld135_0 C (Gl ef ?_)))
     refine Ge1 (Cf (α:=Int) (cs:=[_]) (xs:=[(e_ es k).u]) Ac ef C C dc dc C C C C) λad9=>?_
     refine Ge2 (Cm (α:=Int) (e:=3) (xs:=out) (ys:=([(e_ es k).u]:List Int)) Ac ef C C C mm Bk lap dc C (λ_ _=>am)) λad10 cp11=>?_
     exact Ga C (Bi (Ak (Aj (Ax (Gr (Rad C C) (Gm C (Bi (B5 ((k+1),(ad10),(cp11),(out++([(e_ es k).u]:List Int))) (by dsimp only;exact ⟨om,(by rw [nbL_take om,←ho];(first|rw [if_pos c21,if_pos c30]|rw [if_pos c21,if_neg c30]|rw [if_neg c21,if_pos c30]|rw [if_neg c21,if_neg c30])<;>simp)⟩)))))))))
    ·exact Ay (Ak (Aj (Ax (Gr (Rad C C) (Gm C (Bi (B5 ((k+1),(a),(c),(out)) (by dsimp only;exact ⟨om,(by rw [nbL_take om,←ho];(first|rw [if_pos c21,if_pos c30]|rw [if_pos c21,if_neg c30]|rw [if_neg c21,if_pos c30]|rw [if_neg c21,if_neg c30])<;>simp)⟩))))))))
  ·refine Bv (Al (Al (A5 (Aj (Ai (Gm C (Gc2 (Ah call82 C C (Of_ok Bk om)) λad12 cp13=>?_)))))))
   refine Ga C (Af (A2 ?_))
   have ho2:out=nbL es v:=by rw [ho,List.take_of_length_le om]
   subst ho2
   have hX:nbG nd es v=ofL (nbL es v):=if_neg c10
   exact A6 C C (vc 3 (.slice ad12 (nbG nd es v).length cp13) (nbG nd es v)::I) (by rw [hX];exact A1) ⟨ad12,cp13,by rw [hX],rfl⟩
theorem Common03_ok{nd:Int}{va:Value}{es:List Pt}(hl:Sl κ I va es)(u v:Int)(hb:es.length<=1000000):eu prog κ 203 [.agg #[e7 nd,va],e7 u,e7 v] I (λr J=>∃a c,r = .slice a (commonG nd es u v).length c/\J=vc 3 (.slice a (commonG nd es u v).length c) (commonG nd es u v)::I):=by
 refine Ce3 Tryz.func203 C C ?_
 refine Ai (Ge1 (A9 (cs:=[_,_]) C C C) λb1=>Ga C (Af (Ap (Ai (Gm C (Gm C (Gr (Bu C C) (Af (A8 C (λc9=>?_) (λc9=>?_))))))))))
 ·refine Ai (Ga C (Af (A2 (Am ?_))))
  have hX:(commonG nd es u v)=[]:=if_pos c9
  exact A6 C C (vc 3 (.slice none (commonG nd es u v).length 0) (commonG nd es u v)::I) (by rw [hX];exact Cn (show Fit κ _ I from A3) (B2 (α:=Int) _ _)) ⟨none,0,by rw [hX];rfl,rfl⟩
 ·refine Ay (Aj (Ap (Bl mixed (Bt (e8 b1 [e7 nd,va] 48::I) 8 (Dr 0 C (Bd (vs:=[_,_]) ty48) ?_)))))
  refine Dr 1 C (Ad C) (Dr 3 C (Bd (vs:=[_,_]) ty48) ?_)
  refine Dr 4 C (Ad C) (Ds1 2 (Se C (Ah call115 C C (Neigh03_ok (nd:=nd) (Ba hl) u om)) ?_))
  rintro _ _ ⟨_,_,⟨ad2,cp3,rfl,rfl⟩,rfl,rfl⟩
  refine ⟨A1,?_⟩
  have hnl12:=nbG_len nd es u
  refine Ds1 5 (Se C (Ah call115 C C (Neigh03_ok (nd:=nd) (Ba hl) v om)) ?_)
  rintro _ _ ⟨_,_,⟨ad4,cp5,rfl,rfl⟩,rfl,rfl⟩
  refine ⟨A1,?_⟩
  have hnl15:=nbG_len nd es v
  refine Ds1 6 (Se C (Ah call134 C C (Meet_ok Bk Bk (by have:=nbG_len nd es u;omega))) ?_)
  rintro _ _ ⟨_,_,⟨ad6,cp7,rfl,rfl⟩,rfl,rfl⟩
  refine ⟨A1,?_⟩
  refine Dr 7 C (Bb C) (Dz (Aj (Aq (S1 6 C) (A2 ?_))))
  have hX:(commonG nd es u v)=_:=if_neg c9
  exact A6 C C (vc 3 (.slice ad6 (commonG nd es u v).length cp7) (commonG nd es u v)::I) (by rw [hX];exact A1) ⟨ad6,cp7,by rw [hX],rfl⟩
theorem FindP03_ok{nd:Int}{va:Value}{es:List Pt}(hl:Sl κ I va es)(u v:Int):eu prog κ 64 [.agg #[e7 nd,va],e7 u,e7 v] I (λr J=>∃y:Int,r=e7 y/\FindP nd es u v y/\I=J):=by
 refine B8 hl.le λhmax=>?_
 refine Ce3 Tryz.func64 C C ?_
 refine Ai (Ge1 (A9 (cs:=[_,_]) C C C) λb1=>Ga C (Af (Ap (Ai (Gl2 ty48 ?_)))))
 refine G.e (Ah call30 C C (Check03G_ok (nd:=nd) (Ba hl))) ?_
 rintro _ _ ⟨_,_,⟨rfl,rfl⟩,rfl,rfl⟩
 refine Gr (Br C C) (Af (A8 C (λc11=>?_) (λc11=>?_)))
 ·exact Ai (Ga C (Af (A2 (Am (A6 C C I A3 ⟨_,rfl,.inr ⟨rfl,.inl c11⟩,rfl⟩)))))
 ·refine Ay (Aj (Ap (Ai (Gf fld48_1 C (Gl ty46 ?_)))))
  refine Gr (B0 (α:=Pt) (xs:=es) Bh C (Ba hl)) (Gm C (Af (A0 (B1 (σ:=Nat) (λs=>([(1,e7 u),(2,e7 v),(13,va),(14,e7 ((es.length:Nat):Int)),(15,e7 ((s:Nat):Int))]:Env)) (λs=>e8 b1 [e7 nd,va] 48::I) (λs=>(s<=es.length)/\(∀j,j<s->e_ es j≠edgeP u v)) (λs=>es.length - s) 0 (show ((0:Nat)<=es.length)/\(∀j,j<(0:Nat)->e_ es j≠edgeP u v) from ⟨om,all_zero⟩) (Aa C (Aa C (Aa C (Aa C (Aa Ca Bp))))) (show Fit κ _ (e8 b1 [e7 nd,va] 48::I) from A1) ?_))))
  rintro k hp
  obtain ⟨hk,hn⟩:=hp
  refine Ai (Gr (A7 C C) (Af (Ap (A8 C (λc16=>?_) (λc16=>?_)))))
  ·refine Ay (Aj (Ap (A0 (Ai (Gm C (Gr (Az (α:=Pt) (xs:=es) Bh ty135 C C (Ba hl) om om) (Gr (Bz (α:=Pt) (xs:=es) ty135 C (Ba hl) om om) (Ge1 (Au ty135 C) λb2=>Ga C (Ge0 (Bq ty135) ?_)))))))))
   refine Af (Ap (Bl mixed (Bt (e8 b2 [e7 ((e_ es k).u),e7 ((e_ es k).v)] 135::e8 b1 [e7 nd,va] 48::I) 5 (Dr 0 C (Bd (vs:=[_,_]) ty135) ?_))))
   refine Dr 1 C (Ad C) (Dr 2 C (Ad C) (Ds1 3 (Sc0 C (Ah call119 C C (Edge03_ok u v)) ?_)))
   refine Dr 4 C (Eu (α:=Pt) (a:=(e_ es k)) (b:=(edgeP u v)) eqt135 C C) (Dz (Aj (Aq (S7 24 7 1 2 13 14 15 C C C C C C C) (A8 C (λc24=>?_) (λc24=>?_)))))
   ·exact Ai (Gm C (Ga C (Af (A2 (Av (Am (Am (Av (Am (A6 C C I A3 ⟨_,rfl,.inl ⟨Classical.not_not.1 c11,k,rfl,by omega,c24⟩,rfl⟩))))))))))
   ·exact Ay (Ak (Aj (Ax (Gr (Rad C C) (Gm C (Bi (B5 ((k+1)) ⟨om,(El hn c24)⟩)))))))
  ·refine Bv (Al (Al (A5 (Aj (Ai (Ga C (Af (A2 ?_))))))))
   have hm:edgeP u v∉es:=not_mem_at hn om
   exact A6 C C I A3 ⟨_,rfl,.inr ⟨rfl,.inr hm⟩,rfl⟩
theorem Induced03_ok{nd:Int}{va vb:Value}{es:List Pt}{set:List Int}(hl:Sl κ I va es)(hs:Sl κ I vb set)(hb:es.length<=1000000):eu prog κ 207 [.agg #[e7 nd,va],vb] I (λr J=>∃a c,r = .tuple #[.agg #[e7 (indN nd es),.slice a (indG nd es set).length c],e7 (checkG nd es)]/\J=vc 135 (.slice a (indG nd es set).length c) (indG nd es set)::I):=by
 refine B8 hl.le λhmax=>?_
 refine Ce2 Tryz.func207 C C ?_
 refine Ai (Ge1 (A9 (cs:=[_,_]) C C C) λb1=>Ge1 (Au ty48 C) λb2=>Ga C (Af (Ap (Ai (Gl2 ty48 ?_)))))
 refine G.e (Ah call30 C C (Check03G_ok (nd:=nd) (Ba hl))) ?_
 rintro _ _ ⟨_,_,⟨rfl,rfl⟩,rfl,rfl⟩
 refine Ga C (Af (Ai (Gm C (Gr (Br C C) (Af (A8 C (λc13=>?_) (λc13=>?_)))))))
 ·refine Ai (Gr (Bc (cells:=[_,_]) ty48 Tryz.underlying48 pl48 C C) (Gm C (Ge0 (Bq ty48) ?_)))
  refine Ga C (Af (A2 (Am ?_)))
  have hX:(indG nd es set)=[]:=if_pos c13
  have hN:indN nd es=0:=if_pos c13
  exact C3 C ty48 C C mm C (vc 135 (.slice none (indG nd es set).length 0) (indG nd es set)::I) (by rw [hX];exact Cn (show Fit κ _ I from A3) (B2 (α:=Pt) _ _)) ⟨none,0,by rw [hX,hN];rfl,rfl⟩
 ·refine Ay (Aj (Ai (Gf fld48_0 C (Gl ef ?_))))
  refine Gr (Bc (cells:=[_,_]) ty48 Tryz.underlying48 pl48 C C) (Ge1 (Au ty48 C) λb3=>Ge0 (Bq ty48) ?_)
  refine Af (Aq (S4 7 4 2 1 C C C C) (Ap (Ai (Gf fld48_1 C (Gl ty46 ?_)))))
  refine Gr (B0 (α:=Pt) (xs:=es) Bh C (Ba hl)) (Gm C (Af (A0 (B1 (σ:=Nat×(Option Addr)×Nat×(List Pt)) (λs=>([(1,vb),(4,.pointer (some ⟨b2,0,none⟩)),(7,.pointer (some ⟨b3,0,none⟩)),(20,va),(21,e7 ((es.length:Nat):Int)),(22,e7 ((s.1:Nat):Int))]:Env)) (λs=>vc 135 (.slice s.2.1 s.2.2.2.length s.2.2.1) (s.2.2.2)::e8 b3 [e7 nd,.slice s.2.1 s.2.2.2.length s.2.2.1] 48::e8 b2 [e7 0,.slice none 0 0] 48::e8 b1 [e7 nd,va] 48::I) (λs=>(s.1<=es.length)/\(s.2.2.2=(es.take s.1).filter λe=>decide (e.u∈set/\e.v∈set))) (λs=>es.length - s.1) (0,none,0,[]) (show ((0:Nat)<=es.length)/\(([]:List Pt)=(es.take (0:Nat)).filter λe=>decide (e.u∈set/\e.v∈set)) from ⟨om,rfl⟩) (Aa C (Aa C (Aa C (Aa C (Aa C (Aa Ca Bp)))))) (show Fit κ _ (vc 135 (.slice none ([]).length 0) (([]))::e8 b3 [e7 nd,.slice none ([]).length 0] 48::e8 b2 [e7 0,.slice none 0 0] 48::e8 b1 [e7 nd,va] 48::I) from (B2 _ _)) ?_))))
  rintro ⟨k,a,c,out⟩ hp
  dsimp only at hp ⊢
  obtain ⟨hk,ho⟩:=hp
  have hol:out.length<=es.length:=by rw [ho];refine Nat.le_trans (List.length_filter_le _ _) ?_;simp only [List.length_take];omega
  refine Ai (Gr (A7 C C) (Af (Ap (A8 C (λc23=>?_) (λc23=>?_)))))
  ·refine Ay (Aj (Ap (A0 (Ai (Gr (Az (α:=Pt) (xs:=es) Bh ty135 C C (Ba hl) om om) (Gr (Bz (α:=Pt) (xs:=es) ty135 C (Ba hl) om om) (Ge1 (Au ty135 C) λb4=>Ge0 (Bq ty135) ?_)))))))
   refine Af (Ai (Gm C (Gf fld135_0 C (Gl ef ?_))))
   refine Gc0 (Ah call72 C C (RHas_ok (Ba hs) ((e_ es k).u))) ?_
   refine Gm C (Bg (d:=30) C (λg30=>?_) (λg30=>?_))
   ·refine e9 (Ad C) (e9 (Ab fld135_1 C) (e9 (As ef) ?_))
    refine D5 (Ck C C C) (Ah call72 C C (RHas_ok (Ba hs) ((e_ es k).v))) ?_
    rintro _ _ ⟨_,_,⟨rfl,rfl⟩,rfl,rfl⟩
    refine Gr (Ar C C) (Af (Aq (S8 35 9 1 4 7 20 21 22 C C C C C C C C) (A8 C (λc35=>?_) (λc35=>?_))))
    ·refine Ax (Gf fld48_1 C (Gl ty46 ?_))
     refine Gl2 ty135 ?_
     refine Ge1 (Cf (α:=Pt) (cs:=[_,_]) (xs:=[⟨(e_ es k).u,(e_ es k).v⟩]) Bh ty135 C C dc dc C C C C) λad5=>?_
     refine Ge2 (Cm (α:=Pt) (e:=135) (xs:=out) (ys:=([⟨(e_ es k).u,(e_ es k).v⟩]:List Pt)) Bh ty135 C C C mm Bk lcn dc C (λ_ _=>am)) λad6 cp7=>?_
     refine Gf fld48_1 C (Ge0 (Eq ty46) ?_)
     exact Bi (Ak (Aj (Aq (S6 1 4 7 20 21 22 C C C C C C) (Ax (Gr (Rad C C) (Gm C (Bi (B5 ((k+1),(ad6),(cp7),(out++([⟨(e_ es k).u,(e_ es k).v⟩]:List Pt))) (by dsimp only;exact ⟨om,(by first|rw [flt_yes om (decide_eq_true ⟨by assumption,by assumption⟩),←ho]|rw [flt_no om (decide_eq_false (λh=>by first|exact absurd h.1 asm|exact absurd h.2 asm)),←ho])⟩)))))))))
    ·exact Ay (Ak (Aj (Ax (Gr (Rad C C) (Gm C (Bi (B5 ((k+1),(a),(c),(out)) (by dsimp only;exact ⟨om,(by first|rw [flt_yes om (decide_eq_true ⟨by assumption,by assumption⟩),←ho]|rw [flt_no om (decide_eq_false (λh=>by first|exact absurd h.1 asm|exact absurd h.2 asm)),←ho])⟩))))))))
   ·exact eb (eb (eb (eb (Gr (Ao C C) (Af (Aq (S8 35 9 1 4 7 20 21 22 C C C C C C C C) (C2 C (Ay (Ak (Aj (Ax (Gr (Rad C C) (Gm C (Bi (B5 ((k+1),(a),(c),(out)) (by dsimp only;exact ⟨om,(by first|rw [flt_yes om (decide_eq_true ⟨by assumption,by assumption⟩),←ho]|rw [flt_no om (decide_eq_false (λh=>by first|exact absurd h.1 asm|exact absurd h.2 asm)),←ho])⟩))))))))))))))))
  ·refine Bv (Al (Al (A5 (Aj (Ai (Gl2 ty48 ?_))))))
   refine Ge0 (Bq ty48) ?_
   refine Ga C (Af (A2 ?_))
   have ho2:out=es.filter λe=>decide (e.u∈set/\e.v∈set):=by rw [ho,List.take_of_length_le om]
   have hX:indG nd es set=out:=by rw [indG_ref set c13,ho2]
   have hN:indN nd es=nd:=if_neg c13
   have hz:checkG nd es=0:=Classical.not_not.1 c13
   exact C3 C ty48 C C mm C (vc 135 (.slice a (indG nd es set).length c) (indG nd es set)::I) (by rw [hX];exact A1) ⟨a,c,by first|(rw [hX,hN,hz];done)|(rw [hX,hN,hz];rfl),rfl⟩
theorem Inside03_ok{nd:Int}{va vb:Value}{es:List Pt}{set:List Int}(hl:Sl κ I va es)(hs:Sl κ I vb set)(hb:es.length<=1000000):eu prog κ 136 [.agg #[e7 nd,va],vb] I (λr J=>r=e7 ((insideN nd es set:Nat):Int)/\I=J):=by
 refine Ce2 Tryz.func136 C C ?_
 refine Ai (Ge1 (A9 (cs:=[_,_]) C C C) λb1=>Ga C (Af (Ai (Gl2 ty48 ?_))))
 refine Gm C (Gc2 (Ah call207 C C (Induced03_ok (nd:=nd) (Ba hl) (Ba hs) om)) λad2 cp3=>?_)
 refine Gm C (Gr (Aw C C) (Gr (Aw C C) (Ge1 (Au ty48 C) λb4=>Ge0 (Bq ty48) ?_)))
 refine Ga C (Af (Ai (Gf fld48_1 C (Gl ty46 ?_))))
 exact Gr (Bs Bh C) (Ga C (Af (Aq (S1 4 C) (A2 (A6 C C I A3 ⟨by rw [indG_len],rfl⟩)))))
theorem Density03_ok{nd:Int}{va vb:Value}{es:List Pt}{set:List Int}(hl:Sl κ I va es)(hs:Sl κ I vb set)(hb:es.length<=1000000)(hsb:set.length<=1000000):eu prog κ 73 [.agg #[e7 nd,va],vb] I (λr J=>r = .tuple #[.agg #[e7 (densG nd es set).num,e7 (densG nd es set).den],e7 (checkG nd es)]/\I=J):=by
 refine Ce2 Tryz.func73 C C ?_
 refine Ai (Ge1 (A9 (cs:=[_,_]) C C C) λb1=>Ge1 (Au ty40 C) λb2=>Ga C (Af (Ap (Ai (Gl2 ty48 ?_)))))
 refine G.e (Ah call30 C C (Check03G_ok (nd:=nd) (Ba hl))) ?_
 rintro _ _ ⟨_,_,⟨rfl,rfl⟩,rfl,rfl⟩
 refine Ga C (Af (Ai (Gm C (Gr (Br C C) (Af (A8 C (λc11=>?_) (λc11=>?_)))))))
 ·refine Ai (Gr (Bc (cells:=[_,_]) ty40 Ct pl40 C C) (Gm C (Ge0 (Bq ty40) ?_)))
  refine Ga C (Af (A2 (Am ?_)))
  have hX:(densG nd es set)=⟨0,0⟩:=if_pos c11
  exact C3 C ty40 C C mm C I A3 ⟨by first|(rw [hX];done)|(rw [hX];rfl),rfl⟩
 ·refine Ay (Aj (Ai (Gm C (Gf fld48_0 C (Gl ef ?_)))))
  refine Gc2 (Ah call135 C C (Range_ok nd)) λad3 cp4=>?_
  refine G.e (Ah call134 C C (Meet_ok (Ba hs) Bk om)) ?_
  rintro _ _ ⟨_,_,⟨ad5,cp6,rfl,rfl⟩,rfl,rfl⟩
  refine Gr (Bs Ac C) (Ga C ?_)
  have hml:(meetL set (rangeI nd)).length<=set.length:=by unfold meetL;exact Nat.le_trans (List.length_filter_le _ _) (ofL_len _)
  refine Af (Aq (S4 7 4 2 1 C C C C) (Ap (Ai (Gm C (Gr (Bu C C) (Af (A8 C (λc21=>?_) (λc21=>?_))))))))
  ·refine Ai (Gr (Bc (cells:=[_,_]) ty40 Ct pl40 C C) (Ge0 (Bq ty40) ?_))
   refine Ga C (Af (A2 (Am ?_)))
   have hz:checkG nd es=0:=Classical.not_not.1 c11
   have hX:(densG nd es set)=⟨0,1⟩:=by unfold densG;rw [if_neg c11,if_pos om]
   exact C3 C ty40 C C mm C I A3 ⟨by first|(rw [hX,hz];done)|(rw [hX,hz];rfl),rfl⟩
  ·refine Ay (Aj (Ai (Gl2 ty48 ?_)))
   refine Gm C (Gc0 (Ah call136 C C (Inside03_ok (nd:=nd) (Ba hl) (Ba hs) om)) ?_)
   have hin25:=insideN_le nd es set
   refine Gm C (Gc0 (Ah call128 C C (RatOf_ok ((insideN nd es set:Nat):Int) (((meetL set (rangeI nd)).length:Nat):Int) om om)) ?_)
   refine Ge0 (Bq ty40) ?_
   refine Ga C (Af (A2 ?_))
   have hz:checkG nd es=0:=Classical.not_not.1 c11
   have hX:(densG nd es set)=mkF ((insideN nd es set:Nat):Int) ((((meetL set (rangeI nd)).length:Nat)):Int):=by unfold densG;rw [if_neg c11,if_neg om]
   exact C3 C ty40 C C mm C I A3 ⟨by first|(rw [hX,hz];done)|(rw [hX,hz];rfl),rfl⟩
end Go.Sl
