/- A part of the proofs of statements of this seat: contracts of functions, and the plain laws that they lean on. No conditions. -/
import Derived.Test.YtoagcglbkeomgaaGreatDoorO11
import Derived.OrdersIn
set_option linter.unusedVariables false
set_option linter.unusedSimpArgs false
set_option linter.unusedSectionVars false
open List (replicate)
namespace Go.Sl
open Go.Proofs
set_option maxRecDepth 4000
variable{sup:List Int}{gone:List Bool}{i:Nat}{κ:Ctx}{I:List Item}{va:Value}
theorem best_yes(h:e_ gone i=false)(Z:bestT sup gone i<0\/e_ sup i<e_ sup (bestT sup gone i)):bestT sup gone (i+1)=(i:Int):=by
 conv=>lhs;unfold bestT
 rw [if_pos ⟨h,Z⟩]
theorem best_no(h:e_ gone i=true\/(¬bestT sup gone i<0/\¬e_ sup i<e_ sup (bestT sup gone i))):bestT sup gone (i+1)=bestT sup gone i:=by
 conv=>lhs;unfold bestT
 rw [if_neg]
 rintro ⟨Z,M⟩
 rcases h with h|h
 ·rw [h] at Z;cases Z
 exact M.elim h.1 h.2
theorem rows_atG{rs:List (RowG Pt)}{tri:List (List Pt)}(h:rs.map RowG.xs=tri){i:Int}(Z:0<=i)(M:i<rs.length):(e_ rs i).xs=e_ tri i:=by
 subst h
 rw [at_eq Z M,at_eq Z<|by rw [List.length_map];exact M,List.getElem_map]
theorem low_yes{p:Pt}(Z:e_ gone p.u=false)(M:e_ gone p.v=false):lowT gone sup p=(sup.set p.u.toNat (e_ sup p.u - 1)).set p.v.toNat (e_ (sup.set p.u.toNat (e_ sup p.u - 1)) p.v - 1):=by
 unfold lowT;rw [if_pos ⟨Z,M⟩]
theorem low_no{p:Pt}(h:e_ gone p.u=true\/e_ gone p.v=true):lowT gone sup p=sup:=by
 unfold lowT;rw [if_neg]
 rintro ⟨Z,M⟩
 rcases h with h|h
 ·rw [h] at Z;cases Z
 rw [h] at M;cases M
set_option maxHeartbeats 2000000 in
theorem TPeel_ok{nd:Int}{es:List Pt}(hl:Sl κ I va es)(hG:GrOk nd es)(hb:es.length<=1000000)(hT:TabRd κ I 0 tzCells):eu Tryz.prog κ 130 [.agg #[e7 nd,va]] I (λr J=>∃a c a' c',r = .tuple #[.slice a (trussO (trisE nd es)).length c,.slice a' (trussN (trisE nd es)).length c']/\J=vc 3 (.slice a (trussO (trisE nd es)).length c) (trussO (trisE nd es))::vc 3 (.slice a' (trussN (trisE nd es)).length c') (trussN (trisE nd es))::I):=by
 have bx:=hG.rng
 have a1:=tris_ok hG
 have bv:(trisE nd es).length=es.length:=List.length_map ..
 refine Ce1 Tryz.func130 C C ?_
 refine Af<|Ge1 (Bb (cs:=[_,_]) C C C) λb1=>Ga C<|Ga C<|Ad<|Af<|Gl2 ty38 ?_
 refine G.e (Aj c_ C C<|Triangles_ok (nd:=nd) (A4 hl) hG om<|Bj hT Av) ?_
 rintro _ _ ⟨_,_,⟨ai,aj,Z,rfl,az,rfl⟩,rfl,rfl⟩
 have a6:Z.length=(trisE nd es).length:=by rw [←az,List.length_map]
 refine Ec (J:=vc 198 (.slice ai Z.length aj) (Z)::e8 b1 [e7 nd,va] 38::(rgI Z++I)) (C5<|List.Perm.cons _<|Di (A:=rgI Z) (L:=[e8 b1 [e7 nd,va] 38]) (T:=I)) ?_
 show G Tryz.prog κ _ _ _ _ ([(16,.slice ai Z.length aj),(15,.agg #[e7 nd,va]),(3,.slice none 0 0),(2,.slice none 0 0),(1,.pointer<|some ⟨b1,0,none⟩),(0,.agg #[e7 nd,va])]:Env) (vc 198 (.slice ai Z.length aj) (Z)::e8 b1 [e7 nd,va] 38::(rgI Z++I))
 refine Ga C<|Ad<|Af<|Gm C<|Gr (Bk Da C)<|Ga C<|Ad<|Af<|Gm C<|Ge2 (E1 (α:=Int) (n:=Z.length) Ab ef C C C om om dc C) λap an=>?_
 refine Ga C<|Ad<|Ap<|Af<|Gm C<|Gr (Bk Da C)<|Gm C<|Ad<|Am (S7 23 22 21 6 5 4 2 C C C C C C C)<|A0<|B1 (σ:=Nat×(List Int)) (λs=>([(2,.slice none 0 0),(4,.slice ai Z.length aj),(5,e7 ((Z.length:Nat):Int)),(6,.slice ap (replicate Z.length (default:Int)).length an),(21,.slice ai Z.length aj),(22,e7 ((Z.length:Nat):Int)),(23,e7 ((s.1:Nat):Int))]:Env)) (λs=>vc 3 (.slice ap (replicate Z.length (default:Int)).length an) (s.2)::vc 198 (.slice ai Z.length aj) (Z)::e8 b1 [e7 nd,va] 38::(rgI Z++I)) (λs=>(s.1<=Z.length)/\(s.2.length=Z.length)/\(∀i:Nat,i<s.1->e_ s.2 i=(((e_ Z i).xs.length:Nat):Int))) (λs=>Z.length - s.1) (0,replicate Z.length (default:Int)) (show ((0:Nat)<=Z.length)/\((replicate Z.length (default:Int):List Int).length=Z.length)/\(∀i:Nat,i<(0:Nat)->e_ (replicate Z.length (default:Int):List Int) (i:Int)=(((e_ Z i).xs.length:Nat):Int)) from ⟨om,List.length_replicate,(λi h=>by omega)⟩) (Aa C<|Aa C<|Aa C<|Aa C<|Aa C<|Aa C<|Aa (Ej C<|by first|omega|rfl|((try dsimp only);first|exact best_yes (by simpa using aa) (by first|exact .inl M|exact .inr ab)|exact (best_yes (by simpa using aa)<|by first|exact .inl M|exact .inr ab).symm|exact best_no (by first|(left;simpa using aa)|exact .inr ⟨M,ab⟩)|exact (best_no<|by first|(left;simpa using aa)|exact .inr ⟨M,ab⟩).symm)) Bm) (show Fit κ _ (vc 3 (.slice ap (replicate Z.length (default:Int)).length an) ((replicate Z.length (default:Int)))::vc 198 (.slice ai Z.length aj) (Z)::e8 b1 [e7 nd,va] 38::(rgI Z++I)) from Bf) ?_
 rintro ⟨k,sup⟩ hp
 dsimp only at hp ⊢
 obtain ⟨hk,bg,bi⟩:=hp
 refine Af<|Gr (A9 C C)<|Ad<|Ap<|A7 C (λbq=>?_)<|λbq=>?_
 ·refine Aw (Ah<|Ap<|A0<|Af<|Gm C<|Gr (Ax (α:=(RowG Pt)) (xs:=Z) Da ty198 C C Bg om oo)<|Gr (B3 (α:=(RowG Pt)) (xs:=Z) (u:= .slice (e_ Z k).a (e_ Z k).xs.length (e_ Z k).c) ty198 C Bg om oo C)<|Ga C<|Ga C<|Ad<|Au<|Gm C<|Gm C<|Gm C<|Gr (Bk Bw C)<|Gr (Ax (α:=Int) (xs:=sup) Ab ef C C Bg om oo)<|Ge0 (Cw (α:=Int) (xs:=sup) (e:=3) (new:=(((e_ Z k).xs.length:Nat):Int)) ef C C C om oo am) ?_)
  exact Bo<|Ak<|Ah<|Am (S7 2 4 5 6 21 22 23 C C C C C C C)<|Au<|Gr (Rad C C)<|Gm C<|Bo<|Ce ((k+1),(List.set sup ((k:Int)).toNat ((((e_ Z k).xs.length:Nat):Int)))) (by dsimp only;exact ⟨om,(by rw [List.length_set];exact bg),(λi h=>by rw [Ed _ _ _ _ om om om];by_cases e:i=k;(· subst e;rw [if_pos rfl]);(· rw [if_neg om];exact bi i om))⟩) (hL:=(Aa C<|Aa C<|Aa C<|Aa C<|Aa C<|Aa C<|Aa (Ej C<|by first|omega|rfl|((try dsimp only);first|exact best_yes (by simpa using aa) (by first|exact .inl M|exact .inr ab)|exact (best_yes (by simpa using aa)<|by first|exact .inl M|exact .inr ab).symm|exact best_no (by first|(left;simpa using aa)|exact .inr ⟨M,ab⟩)|exact (best_no<|by first|(left;simpa using aa)|exact .inr ⟨M,ab⟩).symm)) Bm))
 refine Bv<|Ao<|Ao<|Ba<|Ah<|Af<|Gm C ?_
 have be:sup=(startT<|trisE nd es).sup:=by refine ext_at (by rw [bg,a6];exact (List.length_map ..).symm) (λi hi=>?_);rw [bi i om,rows_atG az om om];show _=e_ ((trisE nd es).map λl=>(l.length:Int)) (i:Int);rw [Cx _ _ (show i<(trisE nd es).length by omega),Cx _ _<|by rw [List.length_map];omega,List.getElem_map]
 refine Ge2 (E1 (α:=Bool) (n:=Z.length) Em ty4 C C C om om dc C) λaw av=>?_
 refine Ga C<|Ad<|Af<|Gm C<|Ge2 (E1 (α:=Int) (n:=Z.length) Ab ef C C C om om dc C) λar ah=>?_
 refine Ga C<|Ad<|Am (S6 3 9 2 4 5 6 C C C C C C)<|Af<|Ga C<|Ad<|Ap<|Af<|Gm C<|Gm C<|Ad<|A0<|B1 (σ:=Nat×TrS×(Option Addr)×Nat) (λs=>([(2,.slice s.2.2.1 s.2.1.ord.length s.2.2.2),(3,.slice ar (replicate Z.length (default:Int)).length ah),(4,.slice ai Z.length aj),(5,e7 ((Z.length:Nat):Int)),(6,.slice ap (replicate Z.length (default:Int)).length an),(9,.slice aw (replicate Z.length (default:Bool)).length av),(10,e7<|s.2.1.k),(38,e7 ((Z.length:Nat):Int)),(39,e7 ((s.1:Nat):Int))]:Env)) (λs=>vc 3 (.slice s.2.2.1 s.2.1.ord.length s.2.2.2) (s.2.1.ord)::vc 3 (.slice ar (replicate Z.length (default:Int)).length ah) (s.2.1.num)::vc 4 (.slice aw (replicate Z.length (default:Bool)).length av) (s.2.1.gone)::vc 3 (.slice ap (replicate Z.length (default:Int)).length an) (s.2.1.sup)::vc 198 (.slice ai Z.length aj) (Z)::e8 b1 [e7 nd,va] 38::(rgI Z++I)) (λs=>(s.1<=Z.length)/\(s.2.1=runTr (trisE nd es) s.1)/\(TrOk (nd.toNat - 1) (trisE nd es).length s.1 s.2.1)) (λs=>Z.length - s.1) (0,(startT<|trisE nd es),none,0) (show ((0:Nat)<=Z.length)/\(((startT<|trisE nd es):TrS)=runTr (trisE nd es) (0:Nat))/\(TrOk (nd.toNat - 1) (trisE nd es).length (0:Nat) ((startT<|trisE nd es):TrS)) from ⟨om,rfl,(TrOk.start a1)⟩) (Aa (Dc C<|by first|rfl|simp)<|Aa C<|Aa C<|Aa C<|Aa C<|Aa C<|Aa (Ej C<|by first|omega|rfl|((try dsimp only);first|exact best_yes (by simpa using aa) (by first|exact .inl M|exact .inr ab)|exact (best_yes (by simpa using aa)<|by first|exact .inl M|exact .inr ab).symm|exact best_no (by first|(left;simpa using aa)|exact .inr ⟨M,ab⟩)|exact (best_no<|by first|(left;simpa using aa)|exact .inr ⟨M,ab⟩).symm))<|Aa C<|Aa (Ej C<|by first|omega|rfl|((try dsimp only);first|exact best_yes (by simpa using aa) (by first|exact .inl M|exact .inr ab)|exact (best_yes (by simpa using aa)<|by first|exact .inl M|exact .inr ab).symm|exact best_no (by first|(left;simpa using aa)|exact .inr ⟨M,ab⟩)|exact (best_no<|by first|(left;simpa using aa)|exact .inr ⟨M,ab⟩).symm)) Bm) (show Fit κ _ (vc 3 (.slice none ((startT<|trisE nd es)).ord.length 0) (((startT<|trisE nd es)).ord)::vc 3 (.slice ar (replicate Z.length (default:Int)).length ah) (((startT<|trisE nd es)).num)::vc 4 (.slice aw (replicate Z.length (default:Bool)).length av) (((startT<|trisE nd es)).gone)::vc 3 (.slice ap (replicate Z.length (default:Int)).length an) (((startT<|trisE nd es)).sup)::vc 198 (.slice ai Z.length aj) (Z)::e8 b1 [e7 nd,va] 38::(rgI Z++I)) from (by rw [←be];exact Cv (Cn (α:=Int) _ _)<|by rw [a6];exact Bl)) ?_
 rintro ⟨j,tr,ao,co⟩ hp
 dsimp only at hp ⊢
 obtain ⟨hj,bj,au⟩:=hp
 have br:=au.slen
 have bm:=au.glen
 have b9:=au.nlen
 have b3:=au.olen
 have cb:=au.k
 have b8:2*(((nd.toNat - 1:Nat)):Int)*(j:Int)<=126*(j:Int):=Int.mul_le_mul_of_nonneg_right om om
 refine Af<|Gr (A9 C C)<|Ad<|Ap<|A7 C (λbp=>?_)<|λbp=>?_
 ·refine Aw (Ah<|Ap<|A0<|Af<|Ga C<|Ad<|Ap<|Af<|Gm C<|Gm C<|Ad<|A0<|B1 (σ:=Nat) (λs=>([(2,.slice ao tr.ord.length co),(3,.slice ar (replicate Z.length (default:Int)).length ah),(4,.slice ai Z.length aj),(5,e7 ((Z.length:Nat):Int)),(6,.slice ap (replicate Z.length (default:Int)).length an),(9,.slice aw (replicate Z.length (default:Bool)).length av),(10,e7<|tr.k),(11,e7<|bestT tr.sup tr.gone s),(38,e7 ((Z.length:Nat):Int)),(39,e7<|(j:Int)),(41,e7 ((Z.length:Nat):Int)),(42,e7 ((s:Nat):Int))]:Env)) (λs=>vc 3 (.slice ao tr.ord.length co) (tr.ord)::vc 3 (.slice ar (replicate Z.length (default:Int)).length ah) (tr.num)::vc 4 (.slice aw (replicate Z.length (default:Bool)).length av) (tr.gone)::vc 3 (.slice ap (replicate Z.length (default:Int)).length an) (tr.sup)::vc 198 (.slice ai Z.length aj) (Z)::e8 b1 [e7 nd,va] 38::(rgI Z++I)) (λs=>(s<=Z.length)) (λs=>Z.length - s) 0 (show ((0:Nat)<=Z.length) from om) (Aa C<|Aa C<|Aa C<|Aa C<|Aa C<|Aa C<|Aa C<|Aa (Ej C<|by first|omega|rfl|((try dsimp only);first|exact best_yes (by simpa using aa) (by first|exact .inl M|exact .inr ab)|exact (best_yes (by simpa using aa)<|by first|exact .inl M|exact .inr ab).symm|exact best_no (by first|(left;simpa using aa)|exact .inr ⟨M,ab⟩)|exact (best_no<|by first|(left;simpa using aa)|exact .inr ⟨M,ab⟩).symm))<|Aa C<|Aa C<|Aa C<|Aa (Ej C<|by first|omega|rfl|((try dsimp only);first|exact best_yes (by simpa using aa) (by first|exact .inl M|exact .inr ab)|exact (best_yes (by simpa using aa)<|by first|exact .inl M|exact .inr ab).symm|exact best_no (by first|(left;simpa using aa)|exact .inr ⟨M,ab⟩)|exact (best_no<|by first|(left;simpa using aa)|exact .inr ⟨M,ab⟩).symm)) Bm) (show Fit κ _ (vc 3 (.slice ao tr.ord.length co) (tr.ord)::vc 3 (.slice ar (replicate Z.length (default:Int)).length ah) (tr.num)::vc 4 (.slice aw (replicate Z.length (default:Bool)).length av) (tr.gone)::vc 3 (.slice ap (replicate Z.length (default:Int)).length an) (tr.sup)::vc 198 (.slice ai Z.length aj) (Z)::e8 b1 [e7 nd,va] 38::(rgI Z++I)) from Bf) ?_)
  rintro i2 hp
  have b7:=hp
  have b2:=bestT_lt tr.sup tr.gone i2
  refine Af<|Gr (A9 C C)<|Ad<|Ap<|A7 C (λbu=>?_)<|λbu=>?_
  ·refine Aw (Ah<|Ap<|A0<|Af<|Gm C<|Ga C<|Ad<|Am (S13 12 2 3 4 5 6 9 10 11 38 39 41 42 C C C C C C C C C C C C C)<|Ap<|Bq mixed<|Cc (vc 3 (.slice ao tr.ord.length co) (tr.ord)::vc 3 (.slice ar (replicate Z.length (default:Int)).length ah) (tr.num)::vc 4 (.slice aw (replicate Z.length (default:Bool)).length av) (tr.gone)::vc 3 (.slice ap (replicate Z.length (default:Int)).length an) (tr.sup)::vc 198 (.slice ai Z.length aj) (Z)::e8 b1 [e7 nd,va] 38::(rgI Z++I)) 20<|Dr 0 C (Ai C)<|Dr 1 C (Ai C)<|Dr 2 C (Ax (α:=Bool) (xs:=tr.gone) Em ty4 C C Bg om oo)<|Dr 3 C (Runs.getB (xs:=tr.gone) ty4 C Bg om oo)<|Dr 4 C (Cp C)<|Dr 5 C (Ai C)<|D.splitb (d:=50) C (λaa=>?_)<|λaa=>?_)
   ·refine Dro 6 C (Ai C) (Dro 7 C (A9 C C)<|Dro 8 C (Ai C)<|Ez (d:=53) C (λM=>?_)<|λM=>?_)
    ·exact Dpo 9 C<|Dpo 10 C<|Dpo 11 C<|Dpo 12 C<|Dpo 13 C<|Dpo 14 C<|Dpo 15 C<|Dpo 16 C<|Dpo 17 C<|Dro 18 C (A6 C C)<|Dr 19 C (A6 C C)<|Dz<|Ah<|Am (S14 64 12 2 3 4 5 6 9 10 11 38 39 41 42 C C C C C C C C C C C C C C)<|Dm C<|Au<|Gm C<|Ga C<|Bo<|Ak<|Ah<|Am (S12 11 2 3 4 5 6 9 10 38 39 41 42 C C C C C C C C C C C C)<|Au<|Gr (Rad C C)<|Gm C<|Bo<|Ce ((i2+1)) om (hL:=(Aa C<|Aa C<|Aa C<|Aa C<|Aa C<|Aa C<|Aa C<|Aa (Ej C<|by first|omega|rfl|((try dsimp only);first|exact best_yes (by simpa using aa) (by first|exact .inl M|exact .inr ab)|exact (best_yes (by simpa using aa)<|by first|exact .inl M|exact .inr ab).symm|exact best_no (by first|(left;simpa using aa)|exact .inr ⟨M,ab⟩)|exact (best_no<|by first|(left;simpa using aa)|exact .inr ⟨M,ab⟩).symm))<|Aa C<|Aa C<|Aa C<|Aa (Ej C<|by first|omega|rfl|((try dsimp only);first|exact best_yes (by simpa using aa) (by first|exact .inl M|exact .inr ab)|exact (best_yes (by simpa using aa)<|by first|exact .inl M|exact .inr ab).symm|exact best_no (by first|(left;simpa using aa)|exact .inr ⟨M,ab⟩)|exact (best_no<|by first|(left;simpa using aa)|exact .inr ⟨M,ab⟩).symm)) Bm))
    refine Dro 9 C (Ai C)<|Dro 10 C (Ai C)<|Dro 11 C (Ax (α:=Int) (xs:=tr.sup) Ab ef C C Bg om oo)<|Dro 12 C (Bu (xs:=tr.sup) ef C Bg om oo)<|Dro 13 C (Ai C)<|Dro 14 C (Ai C)<|Dro 15 C (Ax (α:=Int) (xs:=tr.sup) Ab ef C C Bg om oo)<|Dro 16 C (Bu (xs:=tr.sup) ef C Bg om oo)<|Dro 17 C (A9 C C)<|Dro 18 C (Bc C C)<|Dr 19 C (A6 C C)<|Dz<|Ah<|Am (S14 64 12 2 3 4 5 6 9 10 11 38 39 41 42 C C C C C C C C C C C C C C)<|A7 C (λab=>?_)<|λab=>?_
    ·exact Au<|Gm C<|Ga C<|Bo<|Ak<|Ah<|Am (S12 11 2 3 4 5 6 9 10 38 39 41 42 C C C C C C C C C C C C)<|Au<|Gr (Rad C C)<|Gm C<|Bo<|Ce ((i2+1)) om (hL:=(Aa C<|Aa C<|Aa C<|Aa C<|Aa C<|Aa C<|Aa C<|Aa (Ej C<|by first|omega|rfl|((try dsimp only);first|exact best_yes (by simpa using aa) (by first|exact .inl M|exact .inr ab)|exact (best_yes (by simpa using aa)<|by first|exact .inl M|exact .inr ab).symm|exact best_no (by first|(left;simpa using aa)|exact .inr ⟨M,ab⟩)|exact (best_no<|by first|(left;simpa using aa)|exact .inr ⟨M,ab⟩).symm))<|Aa C<|Aa C<|Aa C<|Aa (Ej C<|by first|omega|rfl|((try dsimp only);first|exact best_yes (by simpa using aa) (by first|exact .inl M|exact .inr ab)|exact (best_yes (by simpa using aa)<|by first|exact .inl M|exact .inr ab).symm|exact best_no (by first|(left;simpa using aa)|exact .inr ⟨M,ab⟩)|exact (best_no<|by first|(left;simpa using aa)|exact .inr ⟨M,ab⟩).symm)) Bm))
    exact Aw<|Ak<|Ah<|Am (S12 2 3 4 5 6 9 10 11 38 39 41 42 C C C C C C C C C C C C)<|Au<|Gr (Rad C C)<|Gm C<|Bo<|Ce ((i2+1)) om (hL:=(Aa C<|Aa C<|Aa C<|Aa C<|Aa C<|Aa C<|Aa C<|Aa (Ej C<|by first|omega|rfl|((try dsimp only);first|exact best_yes (by simpa using aa) (by first|exact .inl M|exact .inr ab)|exact (best_yes (by simpa using aa)<|by first|exact .inl M|exact .inr ab).symm|exact best_no (by first|(left;simpa using aa)|exact .inr ⟨M,ab⟩)|exact (best_no<|by first|(left;simpa using aa)|exact .inr ⟨M,ab⟩).symm))<|Aa C<|Aa C<|Aa C<|Aa (Ej C<|by first|omega|rfl|((try dsimp only);first|exact best_yes (by simpa using aa) (by first|exact .inl M|exact .inr ab)|exact (best_yes (by simpa using aa)<|by first|exact .inl M|exact .inr ab).symm|exact best_no (by first|(left;simpa using aa)|exact .inr ⟨M,ab⟩)|exact (best_no<|by first|(left;simpa using aa)|exact .inr ⟨M,ab⟩).symm)) Bm))
   exact Dpo 6 C<|Dpo 7 C<|Dpo 8 C<|Dpu 9 C<|Dpu 10 C<|Dpu 11 C<|Dpu 12 C<|Dpu 13 C<|Dpu 14 C<|Dpu 15 C<|Dpu 16 C<|Dpu 17 C<|Dpo 18 C<|Dr 19 C (Bc C C)<|Dz<|Ah<|Am (S14 64 12 2 3 4 5 6 9 10 11 38 39 41 42 C C C C C C C C C C C C C C)<|Dx C<|Aw<|Ak<|Ah<|Am (S12 2 3 4 5 6 9 10 11 38 39 41 42 C C C C C C C C C C C C)<|Au<|Gr (Rad C C)<|Gm C<|Bo<|Ce ((i2+1)) om (hL:=(Aa C<|Aa C<|Aa C<|Aa C<|Aa C<|Aa C<|Aa C<|Aa (Ej C<|by first|omega|rfl|((try dsimp only);first|exact best_yes (by simpa using aa) (by first|exact .inl M|exact .inr ab)|exact (best_yes (by simpa using aa)<|by first|exact .inl M|exact .inr ab).symm|exact best_no (by first|(left;simpa using aa)|exact .inr ⟨M,ab⟩)|exact (best_no<|by first|(left;simpa using aa)|exact .inr ⟨M,ab⟩).symm))<|Aa C<|Aa C<|Aa C<|Aa (Ej C<|by first|omega|rfl|((try dsimp only);first|exact best_yes (by simpa using aa) (by first|exact .inl M|exact .inr ab)|exact (best_yes (by simpa using aa)<|by first|exact .inl M|exact .inr ab).symm|exact best_no (by first|(left;simpa using aa)|exact .inr ⟨M,ab⟩)|exact (best_no<|by first|(left;simpa using aa)|exact .inr ⟨M,ab⟩).symm)) Bm))
  refine Bv<|Ao<|Ao<|Ba<|Ah<|Af<|Gm C ?_
  obtain ⟨b,bf⟩:∃b,bestT tr.sup tr.gone i2=b:=⟨_,rfl⟩
  have bc:bestT tr.sup tr.gone (trisE nd es).length=b:=by rw [←bf,show i2=(trisE nd es).length by omega]
  have a4:=au.best om
  rw [bc] at a4
  rw [bf]
  have ca:=au.sup _ (Ca (xs:=tr.sup) (i:=b) a4.1 om)
  refine Gm C<|Gm C<|Gr (Ax (α:=Int) (xs:=tr.sup) Ab ef C C Bg om oo)<|Gr (Bu (xs:=tr.sup) ef C Bg om oo)<|Gr (Do C C) ?_
  have bo:(if tr.k<(e_ tr.sup b) then (e_ tr.sup b) else tr.k)=(max tr.k<|e_ tr.sup b):=by split<;>omega
  rw [bo]
  refine Ga C<|Ad<|Am (S10 10 2 3 4 5 6 9 11 38 39 C C C C C C C C C C)<|Af<|Gm C<|Gm C<|Gm C<|Gm C<|Gm C<|Gr (Ax (α:=Int) (xs:=tr.num) Ab ef C C Bg om oo)<|Ge0 (Cw (α:=Int) (xs:=tr.num) (e:=3) (new:=(max tr.k<|e_ tr.sup b)) ef C C C om oo am) ?_
  refine Gr (Ax (α:=Bool) (xs:=tr.gone) Em ty4 C C Bg om oo)<|Ge0 (Cw (α:=Bool) (xs:=tr.gone) (e:=4) (new:=true) ty4 C C C om oo am) ?_
  refine Ad<|Am (S10 10 2 3 4 5 6 9 11 38 39 C C C C C C C C C C)<|Af<|Gm C<|Gm C<|Ge1 (Cm (α:=Int) (cs:=[_]) (xs:=[b]) Ab ef C C dc dc C C C C) λba=>?_
  refine Ge2 (Cs (α:=Int) (e:=3) (xs:=tr.ord) (ys:=([b]:List Int)) Ab ef C C C mm Bg lcn dc C<|λ_ _=>am) λa3 a0=>?_
  refine Ga C<|Ad<|Am (S10 2 10 3 4 5 6 9 11 38 39 C C C C C C C C C C)<|Af<|Gm C<|Gm C<|Gr (Ax (α:=(RowG Pt)) (xs:=Z) Da ty198 C C Bg om oo)<|Gr (B3 (α:=(RowG Pt)) (xs:=Z) (u:= .slice (e_ Z b).a (e_ Z b).xs.length (e_ Z b).c) ty198 C Bg om oo C)<|Gr (Bk Bw C)<|Gm C<|Ad<|Am (S12 89 88 87 2 10 3 4 5 6 9 38 39 C C C C C C C C C C C C)<|A0<|B1 (σ:=Nat×(List Int)) (λs=>([(2,.slice a3 (tr.ord++([b]:List Int)).length a0),(3,.slice ar (replicate Z.length (default:Int)).length ah),(4,.slice ai Z.length aj),(5,e7 ((Z.length:Nat):Int)),(6,.slice ap (replicate Z.length (default:Int)).length an),(9,.slice aw (replicate Z.length (default:Bool)).length av),(10,e7<|(max tr.k<|e_ tr.sup b)),(38,e7 ((Z.length:Nat):Int)),(39,e7 ((j:Nat):Int)),(87,.slice (e_ Z b).a (e_ Z b).xs.length (e_ Z b).c),(88,e7<|(((e_ Z b).xs.length:Nat):Int)),(89,e7 ((s.1:Nat):Int))]:Env)) (λs=>vc 3 (.slice ba 1 1) (([b]:List Int))::vc 3 (.slice a3 (tr.ord++([b]:List Int)).length a0) (tr.ord++([b]:List Int))::vc 3 (.slice ar (replicate Z.length (default:Int)).length ah) (List.set tr.num (b).toNat ((max tr.k<|e_ tr.sup b)))::vc 4 (.slice aw (replicate Z.length (default:Bool)).length av) (List.set tr.gone (b).toNat (true))::vc 3 (.slice ap (replicate Z.length (default:Int)).length an) (s.2)::vc 198 (.slice ai Z.length aj) (Z)::e8 b1 [e7 nd,va] 38::(rgI Z++I)) (λs=>(s.1<=(e_ Z b).xs.length)/\(s.2=((e_ Z b).xs.take s.1).foldl (lowT<|List.set tr.gone (b).toNat (true)) tr.sup)/\(s.2.length=(trisE nd es).length)/\(∀x∈s.2, -(126*((j:Nat):Int)) - 2*((s.1:Nat):Int)<=x/\x<=64)) (λs=>(e_ Z b).xs.length - s.1) (0,tr.sup) (show ((0:Nat)<=(e_ Z b).xs.length)/\((tr.sup:List Int)=((e_ Z b).xs.take (0:Nat)).foldl (lowT<|List.set tr.gone (b).toNat (true)) tr.sup)/\((tr.sup:List Int).length=(trisE nd es).length)/\(∀x∈(tr.sup:List Int), -(126*((j:Nat):Int)) - 2*(((0:Nat):Nat):Int)<=x/\x<=64) from ⟨om,rfl,br,(λx hx=>by have:=au.sup x hx;omega)⟩) (Aa C<|Aa C<|Aa C<|Aa C<|Aa C<|Aa C<|Aa C<|Aa C<|Aa C<|Aa C<|Aa C<|Aa (Ej C<|by first|omega|rfl|((try dsimp only);first|exact best_yes (by simpa using aa) (by first|exact .inl M|exact .inr ab)|exact (best_yes (by simpa using aa)<|by first|exact .inl M|exact .inr ab).symm|exact best_no (by first|(left;simpa using aa)|exact .inr ⟨M,ab⟩)|exact (best_no<|by first|(left;simpa using aa)|exact .inr ⟨M,ab⟩).symm)) Bm) (show Fit κ _ (vc 3 (.slice ba 1 1) (([b]:List Int))::vc 3 (.slice a3 (tr.ord++([b]:List Int)).length a0) (tr.ord++([b]:List Int))::vc 3 (.slice ar (replicate Z.length (default:Int)).length ah) (List.set tr.num (b).toNat ((max tr.k<|e_ tr.sup b)))::vc 4 (.slice aw (replicate Z.length (default:Bool)).length av) (List.set tr.gone (b).toNat (true))::vc 3 (.slice ap (replicate Z.length (default:Int)).length an) ((tr.sup))::vc 198 (.slice ai Z.length aj) (Z)::e8 b1 [e7 nd,va] 38::(rgI Z++I)) from Bf) ?_
  rintro ⟨q,ad⟩ hp
  dsimp only at hp ⊢
  obtain ⟨hq,a7,ax,a5⟩:=hp
  have bh:(e_ Z b).xs∈(trisE nd es):=by rw [rows_atG az a4.1 om];exact Ca a4.1 a4.2.1
  have b5:=a1.len _ bh
  have bw:(List.set tr.gone (b).toNat (true)).length=(trisE nd es).length:=by rw [List.length_set];exact bm
  have a8:q<(e_ Z b).xs.length->0<=(e_ (e_ Z b).xs (q:Int)).u/\(e_ (e_ Z b).xs (q:Int)).u<(trisE nd es).length/\0<=(e_ (e_ Z b).xs (q:Int)).v/\(e_ (e_ Z b).xs (q:Int)).v<(trisE nd es).length:=λh=>a1.rng _ bh _ (Ca om om)
  refine Af<|Gr (A9 C C)<|Ad<|Ap<|A7 C (λbt=>?_)<|λbt=>?_
  ·refine Aw (Ah<|Ap<|A0<|Af<|Gr (Ax (α:=Pt) (xs:=(e_ Z b).xs) Bw ty200 C C (C7<|by repeat (first|exact rgI_mem (rs:=Z) (i:=b) om om|apply List.mem_cons_of_mem)) om oo)<|Gr (B0 (α:=Pt) (xs:=(e_ Z b).xs) ty200 C (C7<|by repeat (first|exact rgI_mem (rs:=Z) (i:=b) om om|apply List.mem_cons_of_mem)) om oo) ?_)
   have b6:=a8 om
   have cc:=a5 _ (Ca (xs:=ad) (i:=(e_ (e_ Z b).xs (q:Int)).u) om om)
   refine Ge1 (A2 ty200 C) λbz=>Ge0 (C9 ty200) ?_
   refine Ad<|Am (S13 14 2 3 4 5 6 9 10 38 39 87 88 89 C C C C C C C C C C C C C)<|Af<|Gm C<|Gr (B6 B7 ty2 C C om om)<|Gl ef ?_
   refine Gr (Ax (α:=Bool) (xs:=List.set tr.gone (b).toNat (true)) Em ty4 C C Bg om oo)<|Gr (Runs.getB (xs:=List.set tr.gone (b).toNat (true)) ty4 C Bg om oo)<|Gr (Cp C)<|Gm C<|G.splitb (d:=99) C (λaq=>?_)<|λaq=>?_
   ·refine e9 (Ai C) (e9 (B6 B7 ty2 C C om om)<|e9 (A5 ef) ?_)
    refine e9 (Ax (α:=Bool) (xs:=List.set tr.gone (b).toNat (true)) Em ty4 C C Bg om oo)<|e9 (Runs.getB (xs:=List.set tr.gone (b).toNat (true)) ty4 C Bg om oo)<|e9 (Cp C)<|Gr (A6 C C)<|Ad<|Am (S14 106 14 2 3 4 5 6 9 10 38 39 87 88 89 C C C C C C C C C C C C C C)<|Ee C (λae=>?_)<|λae=>?_
    ·refine Af (Gm C<|Gr (B6 B7 ty2 C C om om)<|Gl ef ?_)
     refine Gr (Ax (α:=Int) (xs:=ad) Ab ef C C Bg om oo)<|Gr (Bu (xs:=ad) ef C Bg om oo)<|Gr (Rsu C C)<|Gr (Ax (α:=Int) (xs:=ad) Ab ef C C Bg om oo)<|Ge0 (Cw (α:=Int) (xs:=ad) (e:=3) (new:=(e_ ad<|(e_ ((e_ Z b).xs) (q:Int)).u) - 1) ef C C C om oo am) ?_
     have b4 : -(126*(j:Int)) - 2*(q:Int) - 1<=e_ (List.set ad ((e_ ((e_ Z b).xs) (q:Int)).u).toNat ((e_ ad<|(e_ ((e_ Z b).xs) (q:Int)).u) - 1)) (e_ (e_ Z b).xs (q:Int)).v/\e_ (List.set ad ((e_ ((e_ Z b).xs) (q:Int)).u).toNat ((e_ ad<|(e_ ((e_ Z b).xs) (q:Int)).u) - 1)) (e_ (e_ Z b).xs (q:Int)).v<=64:=by rw [Ed _ _ _ _ om om om];have:=a5 _ (Ca (xs:=ad) (i:=(e_ (e_ Z b).xs (q:Int)).v) om om);split<;>omega
     refine Ad<|Am (S13 14 2 3 4 5 6 9 10 38 39 87 88 89 C C C C C C C C C C C C C)<|Au<|Gm C<|Gr (B6 B7 ty2 C C om om)<|Gl ef ?_
     refine Gr (Ax (α:=Int) (xs:=List.set ad ((e_ ((e_ Z b).xs) (q:Int)).u).toNat ((e_ ad<|(e_ ((e_ Z b).xs) (q:Int)).u) - 1)) Ab ef C C Bg om oo)<|Gr (Bu (xs:=List.set ad ((e_ ((e_ Z b).xs) (q:Int)).u).toNat ((e_ ad<|(e_ ((e_ Z b).xs) (q:Int)).u) - 1)) ef C Bg om oo)<|Gr (Rsu C C)<|Gr (Ax (α:=Int) (xs:=List.set ad ((e_ ((e_ Z b).xs) (q:Int)).u).toNat ((e_ ad<|(e_ ((e_ Z b).xs) (q:Int)).u) - 1)) Ab ef C C Bg om oo)<|Ge0 (Cw (α:=Int) (xs:=List.set ad ((e_ ((e_ Z b).xs) (q:Int)).u).toNat ((e_ ad<|(e_ ((e_ Z b).xs) (q:Int)).u) - 1)) (e:=3) (new:=(e_ (List.set ad ((e_ ((e_ Z b).xs) (q:Int)).u).toNat ((e_ ad<|(e_ ((e_ Z b).xs) (q:Int)).u) - 1))<|(e_ ((e_ Z b).xs) (q:Int)).v) - 1) ef C C C om oo am) ?_
     refine Bo<|Ak<|Ah<|Am (S12 2 3 4 5 6 9 10 38 39 87 88 89 C C C C C C C C C C C C)<|Au<|Gr (Rad C C)<|Gm C<|Bo ?_
     have ay:((e_ Z b).xs.take (q+1)).foldl (lowT<|List.set tr.gone (b).toNat (true)) tr.sup=lowT (List.set tr.gone (b).toNat (true)) ad (e_ (e_ Z b).xs (q:Int)):=by rw [Ck _ q om,List.foldl_append,←a7];rfl
     have ak:=lowT_rng (gone:=(List.set tr.gone (b).toNat (true))) (p:=(e_ (e_ Z b).xs (q:Int))) (by have:=a8 om;omega) a5
     have bb:=lowT_len (List.set tr.gone (b).toNat (true)) ad (e_ (e_ Z b).xs (q:Int))
     exact Ce ((q+1),(List.set (List.set ad ((e_ ((e_ Z b).xs) (q:Int)).u).toNat ((e_ ad<|(e_ ((e_ Z b).xs) (q:Int)).u) - 1)) ((e_ ((e_ Z b).xs) (q:Int)).v).toNat ((e_ (List.set ad ((e_ ((e_ Z b).xs) (q:Int)).u).toNat ((e_ ad<|(e_ ((e_ Z b).xs) (q:Int)).u) - 1))<|(e_ ((e_ Z b).xs) (q:Int)).v) - 1))) (by dsimp only;exact ⟨om,(by rw [ay];first|exact (low_yes (by simpa using aq)<|by simpa using ae).symm|exact (low_no<|by first|(left;simpa using aq)|(right;simpa using ae)).symm),(by first|exact ax|(simp only [List.length_set];exact ax)),(by first|(rw [low_yes (by simpa using aq) (by simpa using ae)] at ak;exact λx hx=>by have:=ak x hx;push_cast;omega)|(rw [low_no (by first|(left;simpa using aq)|(right;simpa using ae))] at ak;exact λx hx=>by have:=ak x hx;push_cast;omega))⟩) (hL:=(Aa C<|Aa C<|Aa C<|Aa C<|Aa C<|Aa C<|Aa C<|Aa C<|Aa C<|Aa C<|Aa C<|Aa (Ej C<|by first|omega|rfl|((try dsimp only);first|exact best_yes (by simpa using aa) (by first|exact .inl M|exact .inr ab)|exact (best_yes (by simpa using aa)<|by first|exact .inl M|exact .inr ab).symm|exact best_no (by first|(left;simpa using aa)|exact .inr ⟨M,ab⟩)|exact (best_no<|by first|(left;simpa using aa)|exact .inr ⟨M,ab⟩).symm)) Bm))
    refine Aw<|Ak<|Ah<|Am (S12 2 3 4 5 6 9 10 38 39 87 88 89 C C C C C C C C C C C C)<|Au<|Gr (Rad C C)<|Gm C<|Bo ?_
    have ay:((e_ Z b).xs.take (q+1)).foldl (lowT<|List.set tr.gone (b).toNat (true)) tr.sup=lowT (List.set tr.gone (b).toNat (true)) ad (e_ (e_ Z b).xs (q:Int)):=by rw [Ck _ q om,List.foldl_append,←a7];rfl
    have ak:=lowT_rng (gone:=(List.set tr.gone (b).toNat (true))) (p:=(e_ (e_ Z b).xs (q:Int))) (by have:=a8 om;omega) a5
    have bb:=lowT_len (List.set tr.gone (b).toNat (true)) ad (e_ (e_ Z b).xs (q:Int))
    exact Ce ((q+1),(ad)) (by dsimp only;exact ⟨om,(by rw [ay];first|exact (low_yes (by simpa using aq)<|by simpa using ae).symm|exact (low_no<|by first|(left;simpa using aq)|(right;simpa using ae)).symm),(by first|exact ax|(simp only [List.length_set];exact ax)),(by first|(rw [low_yes (by simpa using aq) (by simpa using ae)] at ak;exact λx hx=>by have:=ak x hx;push_cast;omega)|(rw [low_no (by first|(left;simpa using aq)|(right;simpa using ae))] at ak;exact λx hx=>by have:=ak x hx;push_cast;omega))⟩) (hL:=(Aa C<|Aa C<|Aa C<|Aa C<|Aa C<|Aa C<|Aa C<|Aa C<|Aa C<|Aa C<|Aa C<|Aa (Ej C<|by first|omega|rfl|((try dsimp only);first|exact best_yes (by simpa using aa) (by first|exact .inl M|exact .inr ab)|exact (best_yes (by simpa using aa)<|by first|exact .inl M|exact .inr ab).symm|exact best_no (by first|(left;simpa using aa)|exact .inr ⟨M,ab⟩)|exact (best_no<|by first|(left;simpa using aa)|exact .inr ⟨M,ab⟩).symm)) Bm))
   refine eb<|eb<|eb<|eb<|eb<|eb<|Gr (Bc C C)<|Ad<|Am (S14 106 14 2 3 4 5 6 9 10 38 39 87 88 89 C C C C C C C C C C C C C C)<|Dx C<|Aw<|Ak<|Ah<|Am (S12 2 3 4 5 6 9 10 38 39 87 88 89 C C C C C C C C C C C C)<|Au<|Gr (Rad C C)<|Gm C<|Bo ?_
   have ay:((e_ Z b).xs.take (q+1)).foldl (lowT<|List.set tr.gone (b).toNat (true)) tr.sup=lowT (List.set tr.gone (b).toNat (true)) ad (e_ (e_ Z b).xs (q:Int)):=by rw [Ck _ q om,List.foldl_append,←a7];rfl
   have ak:=lowT_rng (gone:=(List.set tr.gone (b).toNat (true))) (p:=(e_ (e_ Z b).xs (q:Int))) (by have:=a8 om;omega) a5
   have bb:=lowT_len (List.set tr.gone (b).toNat (true)) ad (e_ (e_ Z b).xs (q:Int))
   exact Ce ((q+1),(ad)) (by dsimp only;exact ⟨om,(by rw [ay];first|exact (low_yes (by simpa using aq)<|by simpa using ae).symm|exact (low_no<|by first|(left;simpa using aq)|(right;simpa using ae)).symm),(by first|exact ax|(simp only [List.length_set];exact ax)),(by first|(rw [low_yes (by simpa using aq) (by simpa using ae)] at ak;exact λx hx=>by have:=ak x hx;push_cast;omega)|(rw [low_no (by first|(left;simpa using aq)|(right;simpa using ae))] at ak;exact λx hx=>by have:=ak x hx;push_cast;omega))⟩) (hL:=(Aa C<|Aa C<|Aa C<|Aa C<|Aa C<|Aa C<|Aa C<|Aa C<|Aa C<|Aa C<|Aa C<|Aa (Ej C<|by first|omega|rfl|((try dsimp only);first|exact best_yes (by simpa using aa) (by first|exact .inl M|exact .inr ab)|exact (best_yes (by simpa using aa)<|by first|exact .inl M|exact .inr ab).symm|exact best_no (by first|(left;simpa using aa)|exact .inr ⟨M,ab⟩)|exact (best_no<|by first|(left;simpa using aa)|exact .inr ⟨M,ab⟩).symm)) Bm))
  refine Bv<|Ao<|Ao<|Ba<|Ak<|Ah<|Au<|Gr (Rad C C)<|Gm C<|Bo ?_
  have a9:(TrS.mk ad (List.set tr.gone (b).toNat (true)) (List.set tr.num (b).toNat (max tr.k<|e_ tr.sup b)) (tr.ord++[b])<|max tr.k<|e_ tr.sup b)=stepTr (trisE nd es) tr:=by unfold stepTr;rw [bc,a7,List.take_of_length_le om,rows_atG az a4.1 om]
  exact Ce ((j+1),((TrS.mk ad (List.set tr.gone (b).toNat (true)) (List.set tr.num (b).toNat (max tr.k<|e_ tr.sup b)) (tr.ord++[b])<|max tr.k<|e_ tr.sup b)),(a3),(a0)) (by dsimp only;exact ⟨om,(by rw [a9,bj];rfl),(by rw [a9];exact au.step a1 om)⟩) (hL:=(Aa (Dc C<|by first|rfl|simp)<|Aa C<|Aa C<|Aa C<|Aa C<|Aa C<|Aa (Ej C<|by first|omega|rfl|((try dsimp only);first|exact best_yes (by simpa using aa) (by first|exact .inl M|exact .inr ab)|exact (best_yes (by simpa using aa)<|by first|exact .inl M|exact .inr ab).symm|exact best_no (by first|(left;simpa using aa)|exact .inr ⟨M,ab⟩)|exact (best_no<|by first|(left;simpa using aa)|exact .inr ⟨M,ab⟩).symm))<|Aa C<|Aa (Ej C<|by first|omega|rfl|((try dsimp only);first|exact best_yes (by simpa using aa) (by first|exact .inl M|exact .inr ab)|exact (best_yes (by simpa using aa)<|by first|exact .inl M|exact .inr ab).symm|exact best_no (by first|(left;simpa using aa)|exact .inr ⟨M,ab⟩)|exact (best_no<|by first|(left;simpa using aa)|exact .inr ⟨M,ab⟩).symm)) Bm))
 refine Bv<|Ao<|Ao<|Ba<|Ah<|Af<|Gm C<|Gm C<|Ga C<|Ga C<|Ad<|Am (S2 3 2 C C)<|Az ?_
 have bn:j=(trisE nd es).length:=by omega
 subst bn
 subst bj
 have bk:=au.nlen
 exact Dd C C C (vc 3 (.slice ao (trussO<|trisE nd es).length co) (trussO<|trisE nd es)::vc 3 (.slice ar (trussN<|trisE nd es).length ah) (trussN<|trisE nd es)::I) (by show Fit κ _ (vc 3 _ _::vc 3 (.slice _ (runTr (trisE nd es) (trisE nd es).length).num.length _) (runTr (trisE nd es) (trisE nd es).length).num::I);rw [bk];simp only [List.length_replicate,a6];exact Bl) ⟨ao,co,ar,ah,by show _=Value.tuple #[_,.slice _ (runTr (trisE nd es) (trisE nd es).length).num.length _];rw [bk];simp only [List.length_replicate,a6];rfl,rfl⟩
def trussG(nd:Int)(es:List Pt):List Int:=if checkG nd es≠0 then [] else trussN (trisE nd es)
theorem trussG_bd{nd:Int}{es:List Pt}(M:GrOk nd es)(h1:1<=nd):∀x∈trussG nd es,0<=x/\x<=nd - 1:=λx Z=>by
 unfold trussG at Z
 rw [if_neg (λh=>h<|checkG_ok.2 M)] at Z
 have:=(trussN_bound<|tris_ok M).2 x Z
 omega
theorem TNumbers_ok{nd:Int}{es:List Pt}(hl:Sl κ I va es)(hb:es.length<=1000000)(hT:TabRd κ I 0 tzCells):eu Tryz.prog κ 85 [.agg #[e7 nd,va]] I (λr J=>∃a c,r = .tuple #[.slice a (trussG nd es).length c,e7 (checkG nd es)]/\J=vc 3 (.slice a (trussG nd es).length c) (trussG nd es)::I):=by
 refine Ce1 Tryz.func85 C C ?_
 refine Af<|Ge1 (Bb (cs:=[_,_]) C C C) λb1=>Ga C<|Ga C<|Ad<|Ap<|Af<|Gl2 ty38 ?_
 refine Gc0 (Aj c_ C C<|CheckGen_ok<|A4 hl) ?_
 refine Ga C<|Ad<|Af<|Gm C<|Gr (Bn C C)<|Ad<|A7 C (λc10=>?_)<|λc10=>?_
 ·refine Af (Gm C<|Ga C<|Ga C<|Ad<|Az<|Aq ?_)
  have Z:(trussG nd es)=[]:=if_pos c10
  exact Dd C C C (vc 3 (.slice none (trussG nd es).length 0) (trussG nd es)::I) (by rw [Z];exact Cv (show Fit κ _ I from Av)<|Cn (α:=Int) _ _) ⟨none,0,by rw [Z];rfl,rfl⟩
 refine Aw<|Ah<|Af<|Gl2 ty38 ?_
 refine G.e (Aj c_ C C<|TPeel_ok (nd:=nd) (A4 hl) (checkG_ok.1<|Classical.not_not.1 c10) om<|Bj hT Av) ?_
 rintro _ _ ⟨_,_,⟨ab,ad,M,aa,rfl,rfl⟩,rfl,rfl⟩
 refine Gm C<|Gr (Al C C)<|Gr (Al C C)<|Ga C<|Ga C<|Ad<|Am (S1 6 C)<|Af<|Gm C<|Ga C<|Ga C<|Ad<|Az ?_
 have Z:(trussG nd es)=_:=if_neg c10
 have hz:checkG nd es=0:=Classical.not_not.1 c10
 exact Dd C C C (vc 3 (.slice M (trussG nd es).length aa) (trussG nd es)::I) (by rw [Z];exact Bf) ⟨M,aa,by rw [Z,hz]<;>rfl,rfl⟩
theorem nbL_len(es:List Pt)(v:Int):(nbL es v).length<=2*es.length:=by
 induction es with
 |nil=>simp [nbL]
 |cons e es ih=>
  have e1:nbL (e::es) v=((if e.u=v then [e.v] else [])++(if e.v=v then [e.u] else []))++nbL es v:=rfl
  rw [e1,List.length_append,List.length_append,List.length_cons]
  have Z:(if e.u=v then [e.v] else ([]:List Int)).length<=1:=by split<;>simp
  have M:(if e.v=v then [e.u] else ([]:List Int)).length<=1:=by split<;>simp
  omega


end Go.Sl
namespace Go.Sl
end Go.Sl
namespace Go.Sl
end Go.Sl
namespace Go.Sl
open Go.Proofs
set_option maxRecDepth 4000


end Go.Sl
namespace Go.Sl
end Go.Sl
namespace Go.Sl
open Go.Proofs
set_option maxRecDepth 4000
variable{b:Nat}{lv:Value}{ls:List Int}{i:Int}
variable {κ:Ctx}{I:List Item}
theorem MkWindowV_base(hl:∀q,Sl κ (deck b lv q::I) lv ls)(h0:0<=i)   :
    eu Tryz.prog κ 15 [.pointer (some ⟨b,0,none⟩)] (e8 b [lv,e7 i] 85::I) (λr J=>∃y:Int×Int×Int×Int,((r = .agg #[e7 y.1,e7 y.2.1,e7 y.2.2.1]/\checkW y.1 y.2.1 y.2.2.1=0)/\0<=y.2.2.2)/\J=[]++deck b lv y.2.2.2::I):=by
 refine Ce1 Tryz.func15 C C ?_
 refine Af<|Ge1 (A2 ty29 C) λb1=>Ad<|Ap<|Af<|Gm C<|G.e (Aj c_ C C<|Next_ok (by repeat (first|exact AtF.head _ _|apply AtF.tail)) (Bt (hl _) Av) om om) ?_
 rintro _ _ ⟨_,_,⟨Z,i3,rfl,aa,hi3,rfl⟩,rfl,rfl⟩
 show G Tryz.prog κ _ _ _ _ ([(4,e7 Z),(3,.pointer<|some ⟨b,0,none⟩),(2,.pointer<|some ⟨b1,0,none⟩),(0,.pointer<|some ⟨b,0,none⟩)]:Env) (e8 b1 [e7 0,e7 0,e7 0] 29::e8 b [lv,e7 i3] 85::I)
 refine Ad<|A0<|Af<|Gr (Bs C C)<|Ga C<|Ad<|A7 C (λc5=>?_)<|λc5=>?_
 ·refine Af (Gm C<|G.e (Aj c_ C C<|Next_ok (by repeat (first|exact AtF.head _ _|apply AtF.tail)) (Bt (hl _) Av) om om) ?_)
  rintro _ _ ⟨_,_,⟨x4,i5,rfl,ah,ad,rfl⟩,rfl,rfl⟩
  show G Tryz.prog κ _ _ _ _ ([(8,e7 x4),(7,.pointer<|some ⟨b,0,none⟩),(5,.bool<|decide<|Z=1),(6,.bool<|decide<|Z=1),(4,e7 Z),(3,.pointer<|some ⟨b,0,none⟩),(2,.pointer<|some ⟨b1,0,none⟩),(0,.pointer<|some ⟨b,0,none⟩)]:Env) (e8 b1 [e7 0,e7 0,e7 0] 29::e8 b [lv,e7 i5] 85::I)
  refine Gr (Rad C C)<|Gr (Bp (cells:=[_,_,_]) ty29 Ep pl29 C C)<|Ge0 (C8 ty29) ?_
  exact Ad<|Az<|Be<|Aq<|E6 C ty29 C mm C (e8 b [lv,e7 i5] 85::I) Bf ⟨(2,1+x4,0,i5),⟨⟨rfl,by show checkW 2 (1+x4) (0)=0;unfold checkW;rw [if_neg om,if_neg om]⟩,by show 0<=i5;omega⟩,rfl⟩
 refine Af<|Gr (Bs C C)<|Ga C<|Ad<|A7 C (λc11=>?_)<|λc11=>?_
 ·refine Af (Gm C<|G.e (Aj c_ C C<|Next_ok (by repeat (first|exact AtF.head _ _|apply AtF.tail)) (Bt (hl _) Av) om om) ?_)
  rintro _ _ ⟨_,_,⟨x6,M,rfl,ab,ae,rfl⟩,rfl,rfl⟩
  show G Tryz.prog κ _ _ _ _ ([(14,e7 x6),(13,.pointer<|some ⟨b,0,none⟩),(11,.bool<|decide<|Z=2),(12,.bool<|decide<|Z=2),(5,.bool<|decide<|Z=1),(6,.bool<|decide<|Z=1),(4,e7 Z),(3,.pointer<|some ⟨b,0,none⟩),(2,.pointer<|some ⟨b1,0,none⟩),(0,.pointer<|some ⟨b,0,none⟩)]:Env) (e8 b1 [e7 0,e7 0,e7 0] 29::e8 b [lv,e7 M] 85::I)
  refine Gr (Bp (cells:=[_,_,_]) ty29 Ep pl29 C C)<|Ge0 (C8 ty29) ?_
  exact Ad<|Az<|Be<|Aq<|E6 C ty29 C mm C (e8 b [lv,e7 M] 85::I) Bf ⟨(3,0,x6,M),⟨⟨rfl,by show checkW 3 0 (x6)=0;unfold checkW;rw [if_neg om,if_neg om]⟩,by show 0<=M;omega⟩,rfl⟩
 refine Aw<|Ak<|Ah<|Af<|Gr (Bp (cells:=[_,_,_]) ty29 Ep pl29 C C)<|Ge0 (C8 ty29) ?_
 exact Ad<|Az<|E6 C ty29 C mm C (e8 b [lv,e7 i3] 85::I) Bf ⟨(1,0,0,i3),⟨⟨rfl,by show checkW 1 0 (0)=0;unfold checkW;rw [if_neg om,if_neg om]⟩,by show 0<=i3;omega⟩,rfl⟩
theorem MkWindowV_at{F:Item->List Item}(M:AtF I (deck b lv i) F)(hl:∀q,Sl κ (F (deck b lv q)) lv ls)(h0:0<=i)   :
  eu Tryz.prog κ 15 [.pointer (some ⟨b,0,none⟩)] I λr J=>∃y:Int×Int×Int×Int,((r = .agg #[e7 y.1,e7 y.2.1,e7 y.2.2.1]/\checkW y.1 y.2.1 y.2.2.1=0)/\0<=y.2.2.2)/\J=[]++F (deck b lv y.2.2.2):=
 eu.at (Post:=λr (y:Int×Int×Int×Int)=>(r = .agg #[e7 y.1,e7 y.2.1,e7 y.2.2.1]/\checkW y.1 y.2.1 y.2.2.1=0)/\0<=y.2.2.2) (Z:=λy:Int×Int×Int×Int=>[]) (X:=λy:Int×Int×Int×Int=>deck b lv y.2.2.2) M λJ _ hF=>MkWindowV_base (λq=>(hl q).fit (hF _)) h0  








end Go.Sl
namespace Go.Sl
end Go.Sl
namespace Go.Sl
open Go.Proofs
set_option maxRecDepth 4000

theorem bit_maskB{l:List Int}{i:Nat}(hi:i<64):(maskB l).getLsbD i=true↔(i:Int)∈l:=by
 unfold maskB;rw [getLsb_maskB hi];simp






end Go.Sl
namespace Go.Sl
def ClosB(rows:List (BitVec 64))(k:Nat)(W:BitVec 64):Prop:=∀u∈eo W,k<=degB rows W u
theorem degB_mono{rows:List (BitVec 64)}{W L:BitVec 64}(h:∀u∈eo W,u∈eo L)(v:Int):degB rows W v<=degB rows L v:=by
 unfold degB
 refine List.Nodup.length_le_of_subset (listB_nodup _) λx Z=>?_
 obtain ⟨M,h2⟩:=mem_andB.1 Z
 exact mem_andB.2 ⟨M,h x h2⟩
theorem coreR_ind{rows:List (BitVec 64)}{X:BitVec 64->Nat->List (Int×Nat)->Prop}(h0:∀k,X 0#64 k [])
  (hs:∀left k v,Takes rows left v->X (left &&& ~~~(1#64 <<< v.toNat)) (max k<|degB rows left v) (coreR rows (left &&& ~~~(1#64 <<< v.toNat))<|max k<|degB rows left v)->X left k ((v,max k<|degB rows left v)::coreR rows (left &&& ~~~(1#64 <<< v.toNat)) (max k<|degB rows left v))) :
  ∀(n:Nat) (left:BitVec 64) (k:Nat),(eo left).length=n->X left k (coreR rows left k)
 |0,left,k,h=>by
  have:left=0#64:=Classical.byContradiction λhn=>by
   obtain ⟨u,hu⟩:=nz_listB.1 hn
   have:=List.length_pos_of_mem hu;omega
  subst this
  rw [coreR_zero];exact h0 k
 |n+1,left,k,h=>by
  have M:left≠0#64:=λe=>by subst e;rw [listB_zero] at h;simp at h
  have Z:=takeF_takes (rows:=rows) M
  rw [coreR_step Z]
  have hm:=listB_minus Z.mem
  exact hs _ _ _ Z<|coreR_ind h0 hs n _ _<|by omega
section
variable {rows:List (BitVec 64)}
theorem coreR_keys(left:BitVec 64)(k:Nat):(ordL (coreR rows left k)).Nodup/\(∀v,v∈ordL (coreR rows left k)↔v∈eo left):=by
 refine coreR_ind (rows:=rows) (X:=λleft k l=>(ordL l).Nodup/\∀v,v∈ordL l↔v∈eo left) (λk=>?_) (λleft k v Z ih=>?_) _ left k rfl
 ·refine ⟨List.nodup_nil,λv=>?_⟩
  rw [listB_zero];exact Iff.rfl
 have M:=(listB_lt Z.mem).1
 obtain ⟨h1,h2⟩:=ih
 refine ⟨List.nodup_cons.2 ⟨λhm=>((mem_minus M).1 ((h2 v).1 hm)).2 rfl,h1⟩,λu=>?_⟩
 show u∈v::ordL (coreR rows _ _)↔_
 rw [List.mem_cons,h2,mem_minus M]
 constructor
 ·rintro (rfl|h)
  ·exact Z.mem
  exact h.1
 intro h
 by_cases e:u=v
 ·exact .inl e
 exact .inr ⟨h,e⟩
theorem coreR_ge(left:BitVec 64)(k:Nat):∀p∈coreR rows left k,k<=p.2:=by
 refine coreR_ind (rows:=rows) (X:=λleft k l=>∀p∈l,k<=p.2) (λk p hp=>by cases hp) (λleft k v M Z p hp=>?_) _ left k rfl
 rcases List.mem_cons.1 hp with rfl|hp
 ·show k<=max k _;omega
 have:=Z p hp;omega
theorem coreR_clos{j:Nat}{W:BitVec 64}(hW:ClosB rows j W)(left:BitVec 64)(k:Nat):(∀u∈eo W,u∈eo left)->∀p∈coreR rows left k,p.1∈eo W->j<=p.2:=by
 refine coreR_ind (rows:=rows) (X:=λleft k l=>(∀u∈eo W,u∈eo left)->∀p∈l,p.1∈eo W->j<=p.2) (λk _ p hp=>by cases hp) (λleft k v hT ih Z p hp M=>?_) _ left k rfl
 have h0:=(listB_lt hT.mem).1
 by_cases hv:v∈eo W
 ·have h1:=hW v hv
  have h2:=degB_mono (rows:=rows) Z v
  rcases List.mem_cons.1 hp with rfl|hp
  ·show j<=max k _;omega
  have:=coreR_ge _ _ p hp;omega
 rcases List.mem_cons.1 hp with rfl|hp
 ·exact absurd M hv
 exact ih (λu hu=>(mem_minus h0).2 ⟨Z u hu,λe=>hv<|e▸hu⟩) p hp M
theorem coreR_core(left:BitVec 64)(k0:Nat):∀k,k0<k->∃W:BitVec 64,ClosB rows k W/\(∀u∈eo W,u∈eo left)/\∀p∈coreR rows left k0,k<=p.2↔p.1∈eo W:=by
 refine coreR_ind (rows:=rows) (X:=λleft k0 l=>∀k,k0<k->∃W:BitVec 64,ClosB rows k W/\(∀u∈eo W,u∈eo left)/\∀p∈l,k<=p.2↔p.1∈eo W) (λk0 k hk=>?_) (λleft k0 v M ih k hk=>?_) _ left k0 rfl
 ·refine ⟨0#64,λu hu=>?_,λu hu=>hu,λp hp=>by cases hp⟩
  rw [listB_zero] at hu;cases hu
 have Z:=(listB_lt M.mem).1
 by_cases hc:k<=max k0 (degB rows left v)
 ·refine ⟨left,λu hu=>?_,λu hu=>hu,λp hp=>⟨λ_=>?_,λ_=>?_⟩⟩
  ·have:=M.le u hu;omega
  ·rcases List.mem_cons.1 hp with rfl|hp
   ·exact M.mem
   have h1:p.1∈ordL (coreR rows (left &&& ~~~(1#64 <<< v.toNat))<|max k0<|degB rows left v):=List.mem_map.2 ⟨p,hp,rfl⟩
   exact ((mem_minus Z).1 (((coreR_keys _ _).2 _).1 h1)).1
  rcases List.mem_cons.1 hp with rfl|hp
  ·exact hc
  have:=coreR_ge _ _ p hp;omega
 obtain ⟨W,h1,h2,h3⟩:=ih k (by omega)
 refine ⟨W,h1,λu hu=>((mem_minus Z).1 (h2 u hu)).1,λp hp=>?_⟩
 rcases List.mem_cons.1 hp with rfl|hp
 ·exact ⟨λh=>absurd h hc,λh=>absurd rfl ((mem_minus Z).1 (h2 _ h)).2⟩
 exact h3 p hp
theorem numL_at{n:Nat}:∀{l:List (Int×Nat)},(ordL l).Nodup->(∀v∈ordL l,0<=v/\v<(n:Int))->∀p∈l,e_ (numL n l) p.1=(p.2:Int):=by
 intro l
 unfold numL
 have hk:∀(l:List (Int×Nat)) (xs:List Int) (u:Int),0<=u->(∀v∈ordL l,0<=v)->u∉ordL l->e_ (l.foldl (λxs p=>xs.set p.1.toNat (p.2:Int)) xs) u=e_ xs u:=λl=>by
  induction l with
  |nil=>intro xs u _ _ _;rfl
  |cons q l ih=>
   intro xs u hu h0 hn
   have hq:0<=q.1:=h0 q.1 List.mem_cons_self
   have ab:u≠q.1:=λe=>hn (by rw [e];exact List.mem_cons_self)
   rw [List.foldl_cons,ih _ u hu (λv hv=>h0 v<|List.mem_cons_of_mem _ hv) λh=>hn<|List.mem_cons_of_mem _ h]
   unfold e_
   rw [List.getD_eq_getElem?_getD,List.getD_eq_getElem?_getD,List.getElem?_set_ne (by omega)]
 have:∀(l:List (Int×Nat)) (xs:List Int),xs.length=n->(ordL l).Nodup->(∀v∈ordL l,0<=v/\v<(n:Int))->∀p∈l,e_ (l.foldl (λxs p=>xs.set p.1.toNat (p.2:Int)) xs) p.1=(p.2:Int):=λl=>by
  induction l with
  |nil=>intro xs _ _ _ p hp;cases hp
  |cons q l ih=>
   intro xs hl hn hr p hp
   obtain ⟨hq,aa⟩:=List.nodup_cons.1 (show (q.1::ordL l).Nodup from hn)
   have M:∀v∈ordL l,0<=v/\v<(n:Int):=λv hv=>hr v (List.mem_cons_of_mem _ hv)
   have Z:=hr q.1 List.mem_cons_self
   rw [List.foldl_cons]
   rcases List.mem_cons.1 hp with rfl|hp
   ·rw [hk l _ p.1 Z.1 (λv hv=>(M v hv).1) hq,at_set _ _ _ _ Z.1 Z.1<|by omega,if_pos rfl]
   exact ih _ (by rw [List.length_set];exact hl) aa M p hp
 exact λh1 h2=>this l _ List.length_replicate h1 h2
end
end Go.Sl
namespace Go.Sl
open Go.Proofs
set_option maxRecDepth 4000
variable{u:Int}{k:Nat}{W:BitVec 64}{l:List Int}
section
variable {nd:Int}{es:List Pt}
theorem coreL_at(M:GrOk nd es)(h0:0<=u)(h1:u<nd):∃p∈coreR0 nd es,p.1=u/\e_ (coreN nd es) u=(p.2:Int):=by
 have hl:=M.rows.len
 have hS:=rows_sym M
 have Z:=coreR_keys (rows:=ek nd es) (allB ((ek nd es).length:Int)) 0
 have hm:u∈ordL (coreR0 nd es):=(Z.2 u).2 ((mem_allN hS.le).2 om)
 obtain ⟨p,hp,rfl⟩:=List.mem_map.1 hm
 refine ⟨p,hp,rfl,?_⟩
 unfold coreN
 rw [if_neg (by rw [checkG_ok.2 M];decide)]
 exact numL_at Z.1 (λv hv=>by have:=(mem_allN hS.le).1 ((Z.2 v).1 hv);omega) p hp
theorem core_clos(Z:GrOk nd es)(hc:ClosB (ek nd es) k W)(hs:subN nd W)(hu:u∈eo W):(k:Int)<=e_ (coreN nd es) u:=by
 have hl:=Z.rows.len
 have hr:=Z.rng
 have hS:=rows_sym Z
 obtain ⟨p,hp,e,h⟩:=coreL_at Z (Eo hu).1 (hs u hu)
 have:=coreR_clos hc (allB ((ek nd es).length:Int)) 0 (λx M=>(mem_allN hS.le).2 ⟨(Eo M).1,by have:=hs x M;omega⟩) p hp (by rw [e];exact hu)
 omega
theorem core_some(Z:GrOk nd es)(hk:1<=k):∃W,ClosB (ek nd es) k W/\subN nd W/\∀u,0<=u->u<nd->(k:Int)<=e_ (coreN nd es) u->u∈eo W:=by
 have hl:=Z.rows.len
 have hr:=Z.rng
 have hS:=rows_sym Z
 obtain ⟨W,h1,h2,h3⟩:=coreR_core (rows:=ek nd es) (allB ((ek nd es).length:Int)) 0 k om
 refine ⟨W,h1,λx hx=>by have:=(mem_allN hS.le).1 (h2 x hx);omega,λu h0 h4 h5=>?_⟩
 obtain ⟨p,M,e,h⟩:=coreL_at Z h0 h4
 have:=(h3 p M).1 om
 rwa [e] at this
theorem core_pos(Z:GrOk nd es)(h0:0<=u)(h1:u<nd):0<=e_ (coreN nd es) u/\e_ (coreN nd es) u<nd:=by
 have hl:=Z.rows.len
 have hr:=Z.rng
 have hS:=rows_sym Z
 obtain ⟨p,M,e,h⟩:=coreL_at Z h0 h1
 have:=coreF_bound (degB_all hS om) _ _ _ (Nat.zero_le _) p M
 omega
theorem deg_meet(Z:GrOk nd es)(hW:∀x,x∈eo W↔x∈l)(M:0<=u)(h1:u<nd):degB (ek nd es) W u=(meetL (nbG nd es u) l).length:=by
 unfold degB
 have hr:=Z.rng
 refine ((List.perm_ext_iff_of_nodup (Dg _) ?_).2 λx=>?_).length_eq
 ·unfold meetL
  exact ((ofL_asc _).imp λh=>by omega:(ofL<|nbG nd es u).Nodup).filter _
 rw [mem_andB,mem_meetL,hW,Z.rows.mem M h1]
 unfold nbG
 rw [if_neg (by rw [checkG_ok.2 Z];decide),mem_ofL,mem_nbL]
 refine and_congr_left λ_=>⟨λh=>h.2,λh=>⟨?_,h⟩⟩
 rcases h with h|h
 ·have:=Z.edge _ h;simp only at this;omega
 have:=Z.edge _ h;simp only at this;omega
theorem mask_list{n:Int}(hn:n<=64)(h:∀x∈l,0<=x/\x<n)(x:Int):x∈eo (maskB l)↔x∈l:=by
 rw [Du]
 constructor
 ·rintro ⟨h0,Z⟩
  have hlt:=BitVec.lt_of_getLsbD Z
  rw [bit_maskB hlt,Int.toNat_of_nonneg h0] at Z
  exact Z
 intro M
 have:=h x M
 refine ⟨this.1,(bit_maskB om).2 ?_⟩
 rw [Int.toNat_of_nonneg this.1];exact M
end
end Go.Sl
namespace Go.Sl
def ind(p:Bool):Int:=if p=true then 1 else 0
def prs(k:Int):Int:=k*(k - 1) / 2
theorem ind_01(p:Bool):ind p=0\/ind p=1:=by unfold ind;split<;>simp
theorem ind_f:ind false=0:=rfl
theorem ind_t:ind true=1:=rfl
theorem pairs_two(p:Nat->Bool):∀n:Nat,2*sumN n (λy=>sumN n (λx=>ind (decide (x<y)&&p x&&p y)))=sumN n (λx=>ind (p x))*sumN n (λx=>ind (p x)) - sumN n (λx=>ind (p x))
 |0=>rfl
 |n+1=>by
  have Z:=pairs_two p n
  have h1:∀y,y<n->sumN (n+1) (λx=>ind<|decide (x<y)&&p x&&p y)=sumN n (λx=>ind<|decide (x<y)&&p x&&p y):=λy hy=>by
   show sumN n _+ind _=_
   rw [decide_eq_false (show ¬n<y by omega)]
   simp [ind]
  have h2:sumN (n+1) (λx=>ind<|decide (x<n)&&p x&&p n)=if p n=true then sumN n (λx=>ind<|p x) else 0:=by
   show sumN n _+ind _=_
   rw [decide_eq_false (show ¬n<n by omega)]
   cases hn:p n with
   |true=>
    rw [if_pos rfl]
    simp only [Bool.false_and,Bool.and_true,ind_f,Int.add_zero]
    exact sumN_congr n λx hx=>by rw [decide_eq_true hx,Bool.true_and]
   |false=>
    simp only [Bool.and_false,ind_f,Int.add_zero]
    rw [if_neg (by decide)]
    exact sumN_zero n
  have M:sumN (n+1) (λy=>sumN (n+1)<|λx=>ind<|decide (x<y)&&p x&&p y)=sumN n (λy=>sumN n<|λx=>ind<|decide (x<y)&&p x&&p y)+if p n=true then sumN n (λx=>ind<|p x) else 0:=by
   show sumN n _+sumN (n+1) _=_
   rw [sumN_congr n h1,h2]
  rw [M]
  show 2*(_+_)=(sumN n _+ind (p n))*(sumN n _+ind (p n)) - (sumN n _+ind (p n))
  cases hn:p n with
  |true=>
   rw [if_pos rfl,ind_t,Int.mul_add,Z,Int.mul_add,Int.add_mul,Int.mul_one,Int.one_mul]
   omega
  |false=>
   rw [if_neg (by decide),ind_f,Int.add_zero,Int.add_zero]
   exact Z
theorem prs_pairs(p:Nat->Bool)(n:Nat):prs (sumN n (λx=>ind (p x)))=sumN n (λy=>sumN n (λx=>ind (decide (x<y)&&p x&&p y))):=by
 have:=pairs_two p n
 unfold prs
 rw [Int.mul_sub,Int.mul_one]
 omega
structure AdjN (n:Nat) (e:Nat->Nat->Bool):Prop where
 sym:∀x y,e x y=e y x
 irr:∀x,e x x=false
section
variable {n:Nat}{e:Nat->Nat->Bool}
def coN(n:Nat)(e:Nat->Nat->Bool)(v w:Nat):Int:=if v=w then 0 else sumN n λx=>ind (e v x&&e w x)
def quadN(n:Nat)(e:Nat->Nat->Bool)(v:Nat):Int:=sumN n λw=>prs (coN n e v w)
def cyc(e:Nat->Nat->Bool)(a b d c:Nat):Bool:=decide (b<d)&&decide (a<b)&&decide (a<c)&&(e a b&&e a d&&(e b c&&e d c))
theorem ind_d(p:Prop)[Decidable p]:ind (decide p)=if p then 1 else 0:=by unfold ind;by_cases h:p<;>simp [h]
theorem sum3(f:Nat->Nat->Nat->Int)(g:Nat->Nat->Nat->Int)(h:∀x y z,f x y z=g x y z):sumN n (λx=>sumN n λy=>sumN n λz=>f x y z)=sumN n (λx=>sumN n λy=>sumN n λz=>g x y z):=
 sumN_congr n λx _=>sumN_congr n λy _=>sumN_congr n λz _=>h x y z
theorem quad_point(h:AdjN n e)(v w x y:Nat):ind (decide (v≠w)&&(decide (x<y)&&(e v x&&e w x)&&(e v y&&e w y)))=ind (cyc e v x y w)+ind (cyc e w x y v)+ind (cyc e x v w y)+ind (cyc e x w v y):=by
 unfold cyc
 rw [h.sym x v,h.sym x w,h.sym y v,h.sym y w]
 cases e1:e v x with
 |false=>simp [ind]
 |true=>
  cases e2:e w x with
  |false=>simp [ind]
  |true=>
   cases e3:e v y with
   |false=>simp [ind]
   |true=>
    cases e4:e w y with
    |false=>simp [ind]
    |true=>
     have n1:v≠x:=λq=>by rw [q,h.irr] at e1;cases e1
     have n2:w≠x:=λq=>by rw [q,h.irr] at e2;cases e2
     have n3:v≠y:=λq=>by rw [q,h.irr] at e3;cases e3
     have n4:w≠y:=λq=>by rw [q,h.irr] at e4;cases e4
     simp only [Bool.and_true,←Bool.decide_and,ind_d]
     repeat' split
     all_goals omega
theorem quad_cyc(h:AdjN n e)(v:Nat):quadN n e v =
  sumN n (λb=>sumN n λd=>sumN n λc=>ind<|cyc e v b d c)+sumN n (λa=>sumN n λd=>sumN n λc=>ind<|cyc e a v d c) +
  sumN n (λa=>sumN n λb=>sumN n λc=>ind<|cyc e a b v c)+sumN n (λa=>sumN n λb=>sumN n λd=>ind<|cyc e a b d v):=by
 have h1:quadN n e v=sumN n λw=>sumN n λy=>sumN n λx=>ind (decide (v≠w)&&(decide (x<y)&&(e v x&&e w x)&&(e v y&&e w y))):=by
  unfold quadN
  refine sumN_congr n λw _=>?_
  unfold coN
  by_cases hw:v=w
  ·rw [if_pos hw]
   symm
   show _=prs 0
   refine (sumN_congr n λy _=>sumN_congr n λx _=>?_).trans ((sumN_congr n λ_ _=>sumN_zero n).trans (sumN_zero n))
   rw [decide_eq_false (λhh=>hh hw),Bool.false_and];rfl
  rw [if_neg hw,prs_pairs]
  refine sumN_congr n λy _=>sumN_congr n λx _=>?_
  rw [decide_eq_true hw,Bool.true_and]
 rw [h1,sum3 _ _ λw y x=>quad_point h v w x y]
 have h2:∀(A B C D:Nat->Nat->Nat->Int),sumN n (λw=>sumN n λy=>sumN n λx=>A w y x+B w y x+C w y x+D w y x) =
   sumN n (λw=>sumN n λy=>sumN n λx=>A w y x)+sumN n (λw=>sumN n λy=>sumN n λx=>B w y x)+sumN n (λw=>sumN n λy=>sumN n λx=>C w y x)+sumN n (λw=>sumN n λy=>sumN n λx=>D w y x):=λA B C D=>by
  simp only [sumN_add]
 rw [h2]
 -- w y x to b d c with b = x, d = y, c = w
 have r1:sumN n (λw=>sumN n λy=>sumN n λx=>ind<|cyc e v x y w)=sumN n (λb=>sumN n λd=>sumN n λc=>ind<|cyc e v b d c):=by
  rw [sumN_congr n λw _=>sumN_swap n n λy x=>ind<|cyc e v x y w,sumN_swap n n λw x=>sumN n λy=>ind<|cyc e v x y w]
  exact sumN_congr n λx _=>sumN_swap n n λw y=>ind<|cyc e v x y w
 have r2:sumN n (λw=>sumN n λy=>sumN n λx=>ind<|cyc e w x y v)=sumN n (λa=>sumN n λb=>sumN n λd=>ind<|cyc e a b d v):=
  sumN_congr n λw _=>sumN_swap n n λy x=>ind (cyc e w x y v)
 have r3:sumN n (λw=>sumN n λy=>sumN n λx=>ind<|cyc e x v w y)=sumN n (λa=>sumN n λd=>sumN n λc=>ind<|cyc e a v d c):=by
  rw [sumN_congr n λw _=>sumN_swap n n λy x=>ind<|cyc e x v w y]
  exact sumN_swap n n λw x=>sumN n λy=>ind<|cyc e x v w y
 have r4:sumN n (λw=>sumN n λy=>sumN n λx=>ind<|cyc e x w v y)=sumN n (λa=>sumN n λb=>sumN n λc=>ind<|cyc e a b v c):=by
  rw [sumN_congr n λw _=>sumN_swap n n λy x=>ind<|cyc e x w v y]
  exact sumN_swap n n λw x=>sumN n λy=>ind<|cyc e x w v y
 rw [r1,r2,r3,r4]
 omega
def quadS(n:Nat)(e:Nat->Nat->Bool):Int:=sumN n λa=>sumN n λb=>sumN n λd=>sumN n λc=>ind (cyc e a b d c)
theorem quad_four(h:AdjN n e):sumN n (quadN n e)=4*quadS n e:=by
 rw [sumN_congr n λv _=>quad_cyc h v]
 simp only [sumN_add]
 have Z:sumN n (λv=>sumN n λa=>sumN n λd=>sumN n λc=>ind<|cyc e a v d c)=quadS n e:=sumN_swap n n λv a=>sumN n λd=>sumN n λc=>ind (cyc e a v d c)
 have r3:sumN n (λv=>sumN n λa=>sumN n λb=>sumN n λc=>ind<|cyc e a b v c)=quadS n e:=by
  rw [sumN_swap n n λv a=>sumN n λb=>sumN n λc=>ind<|cyc e a b v c]
  exact sumN_congr n λa _=>sumN_swap n n λv b=>sumN n λc=>ind<|cyc e a b v c
 have M:sumN n (λv=>sumN n λa=>sumN n λb=>sumN n λd=>ind<|cyc e a b d v)=quadS n e:=by
  rw [sumN_swap n n λv a=>sumN n λb=>sumN n λd=>ind<|cyc e a b d v]
  refine sumN_congr n λa _=>?_
  rw [sumN_swap n n λv b=>sumN n λd=>ind<|cyc e a b d v]
  exact sumN_congr n λb _=>sumN_swap n n λv d=>ind<|cyc e a b d v
 rw [Z,r3,M]
 show quadS n e+_+_+_=_
 omega
end
end Go.Sl
