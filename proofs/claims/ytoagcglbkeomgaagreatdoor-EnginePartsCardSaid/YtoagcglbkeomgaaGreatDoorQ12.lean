/- A part of the proofs of statements of this seat: contracts of functions, and the plain laws that they lean on. No conditions. -/
import Derived.Test.YtoagcglbkeomgaaGreatDoorQ11
import Derived.OrdersIn
set_option linter.unusedVariables false
set_option linter.unusedSimpArgs false
set_option linter.unusedSectionVars false
open List (replicate)
namespace Go.Sl
open Go.Proofs
set_option maxRecDepth 4000
variable{sup:List Int}{gone:List Bool}{i:Nat}{κ:Ctx}{I:List Item}{va:Value}
theorem best_yes(h:e_ gone i=false)(Z:bestT sup gone i<0\/e_ sup i<e_ sup (bestT sup gone i)):bestT sup gone (i+1)=(i:Int):=by
 conv=>lhs;unfold bestT
 rw [if_pos ⟨h,Z⟩]
theorem best_no(h:e_ gone i=true\/(¬bestT sup gone i<0/\¬e_ sup i<e_ sup (bestT sup gone i))):bestT sup gone (i+1)=bestT sup gone i:=by
 conv=>lhs;unfold bestT
 rw [if_neg]
 rintro ⟨Z,M⟩
 rcases h with h|h
 ·rw [h] at Z;cases Z
 exact M.elim h.1 h.2
theorem rows_atG{rs:List (RowG Pt)}{tri:List (List Pt)}(h:rs.map RowG.xs=tri){i:Int}(Z:0<=i)(M:i<rs.length):(e_ rs i).xs=e_ tri i:=by
 subst h
 rw [at_eq Z M,at_eq Z<|by rw [List.length_map];exact M,List.getElem_map]
theorem low_yes{p:Pt}(M:e_ gone p.u=false)(Z:e_ gone p.v=false):lowT gone sup p=(sup.set p.u.toNat (e_ sup p.u - 1)).set p.v.toNat (e_ (sup.set p.u.toNat (e_ sup p.u - 1)) p.v - 1):=by
 unfold lowT;rw [if_pos ⟨M,Z⟩]
theorem low_no{p:Pt}(h:e_ gone p.u=true\/e_ gone p.v=true):lowT gone sup p=sup:=by
 unfold lowT;rw [if_neg]
 rintro ⟨M,Z⟩
 rcases h with h|h
 ·rw [h] at M;cases M
 rw [h] at Z;cases Z
set_option maxHeartbeats 2000000 in
theorem TPeel_ok{nd:Int}{es:List Pt}(hl:Sl κ I va es)(hG:GrOk nd es)(hb:es.length<=1000000)(hT:TabRd κ I 0 tzCells):eu Tryz.prog κ 130 [.agg #[e7 nd,va]] I (λr J=>∃a c a' c',r = .tuple #[.slice a (trussO (trisE nd es)).length c,.slice a' (trussN (trisE nd es)).length c']/\J=vc 3 (.slice a (trussO (trisE nd es)).length c) (trussO (trisE nd es))::vc 3 (.slice a' (trussN (trisE nd es)).length c') (trussN (trisE nd es))::I):=by
 have bx:=hG.rng
 have a3:=tris_ok hG
 have bw:(trisE nd es).length=es.length:=List.length_map ..
 refine Ce1 Tryz.func130 C C ?_
 refine Af<|Ge1 (Bc (cs:=[_,_]) C C C) λb1=>Ga C<|Ga C<|Ad<|Af<|Gl2 ty38 ?_
 refine G.e (Aj c_ C C<|Triangles_ok (nd:=nd) (A6 hl) hG om<|Bg hT Av) ?_
 rintro _ _ ⟨_,_,⟨ai,aj,Z,rfl,a0,rfl⟩,rfl,rfl⟩
 have a8:Z.length=(trisE nd es).length:=by rw [←a0,List.length_map]
 refine D9 (J:=vc 198 (.slice ai Z.length aj) (Z)::e8 b1 [e7 nd,va] 38::(rgI Z++I)) (Cw<|List.Perm.cons _<|C6 (A:=rgI Z) (L:=[e8 b1 [e7 nd,va] 38]) (T:=I)) ?_
 show G Tryz.prog κ _ _ _ _ ([(16,.slice ai Z.length aj),(15,.agg #[e7 nd,va]),(3,.slice none 0 0),(2,.slice none 0 0),(1,.pointer<|some ⟨b1,0,none⟩),(0,.agg #[e7 nd,va])]:Env) (vc 198 (.slice ai Z.length aj) (Z)::e8 b1 [e7 nd,va] 38::(rgI Z++I))
 refine Ga C<|Ad<|Af<|Gm C<|Gr (Bj Db C)<|Ga C<|Ad<|Af<|Gm C<|Ge2 (E1 (α:=Int) (n:=Z.length) Ab ef C C C om om dc C) λan ap=>?_
 refine Ga C<|Ad<|Ap<|Af<|Gm C<|Gr (Bj Db C)<|Gm C<|Ad<|Am (S7 23 22 21 6 5 4 2 C C C C C C C)<|A0<|B1 (σ:=Nat×(List Int)) (λs=>([(2,.slice none 0 0),(4,.slice ai Z.length aj),(5,e7 ((Z.length:Nat):Int)),(6,.slice an (replicate Z.length (default:Int)).length ap),(21,.slice ai Z.length aj),(22,e7 ((Z.length:Nat):Int)),(23,e7 ((s.1:Nat):Int))]:Env)) (λs=>vc 3 (.slice an (replicate Z.length (default:Int)).length ap) (s.2)::vc 198 (.slice ai Z.length aj) (Z)::e8 b1 [e7 nd,va] 38::(rgI Z++I)) (λs=>(s.1<=Z.length)/\(s.2.length=Z.length)/\(∀i:Nat,i<s.1->e_ s.2 i=(((e_ Z i).xs.length:Nat):Int))) (λs=>Z.length - s.1) (0,replicate Z.length (default:Int)) (show ((0:Nat)<=Z.length)/\((replicate Z.length (default:Int):List Int).length=Z.length)/\(∀i:Nat,i<(0:Nat)->e_ (replicate Z.length (default:Int):List Int) (i:Int)=(((e_ Z i).xs.length:Nat):Int)) from ⟨om,List.length_replicate,(λi h=>by omega)⟩) (Aa C<|Aa C<|Aa C<|Aa C<|Aa C<|Aa C<|Aa (Ej C<|by first|omega|rfl|((try dsimp only);first|exact best_yes (by simpa using M) (by first|exact .inl aa|exact .inr ab)|exact (best_yes (by simpa using M)<|by first|exact .inl aa|exact .inr ab).symm|exact best_no (by first|(left;simpa using M)|exact .inr ⟨aa,ab⟩)|exact (best_no<|by first|(left;simpa using M)|exact .inr ⟨aa,ab⟩).symm)) Bl) (show Fit κ _ (vc 3 (.slice an (replicate Z.length (default:Int)).length ap) ((replicate Z.length (default:Int)))::vc 198 (.slice ai Z.length aj) (Z)::e8 b1 [e7 nd,va] 38::(rgI Z++I)) from Bf) ?_
 rintro ⟨k,sup⟩ hp
 dsimp only at hp ⊢
 obtain ⟨hk,bi,bj⟩:=hp
 refine Af<|Gr (Bb C C)<|Ad<|Ap<|A8 C (λbr=>?_)<|λbr=>?_
 ·refine Aw (Ah<|Ap<|A0<|Af<|Gm C<|Gr (Az (α:=(RowG Pt)) (xs:=Z) Db ty198 C C Bh om oo)<|Gr (B4 (α:=(RowG Pt)) (xs:=Z) (u:= .slice (e_ Z k).a (e_ Z k).xs.length (e_ Z k).c) ty198 C Bh om oo C)<|Ga C<|Ga C<|Ad<|Au<|Gm C<|Gm C<|Gm C<|Gr (Bj Bz C)<|Gr (Az (α:=Int) (xs:=sup) Ab ef C C Bh om oo)<|Ge0 (Cx (α:=Int) (xs:=sup) (e:=3) (new:=(((e_ Z k).xs.length:Nat):Int)) ef C C C om oo am) ?_)
  exact Bo<|Al<|Ah<|Am (S7 2 4 5 6 21 22 23 C C C C C C C)<|Au<|Gr (Rad C C)<|Gm C<|Bo<|Cf ((k+1),(List.set sup ((k:Int)).toNat ((((e_ Z k).xs.length:Nat):Int)))) (by dsimp only;exact ⟨om,(by rw [List.length_set];exact bi),(λi h=>by rw [Ef _ _ _ _ om om om];by_cases e:i=k;(· subst e;rw [if_pos rfl]);(· rw [if_neg om];exact bj i om))⟩) (hL:=(Aa C<|Aa C<|Aa C<|Aa C<|Aa C<|Aa C<|Aa (Ej C<|by first|omega|rfl|((try dsimp only);first|exact best_yes (by simpa using M) (by first|exact .inl aa|exact .inr ab)|exact (best_yes (by simpa using M)<|by first|exact .inl aa|exact .inr ab).symm|exact best_no (by first|(left;simpa using M)|exact .inr ⟨aa,ab⟩)|exact (best_no<|by first|(left;simpa using M)|exact .inr ⟨aa,ab⟩).symm)) Bl))
 refine Bx<|Ao<|Ao<|A9<|Ah<|Af<|Gm C ?_
 have bg:sup=(startT<|trisE nd es).sup:=by refine ext_at (by rw [bi,a8];exact (List.length_map ..).symm) (λi hi=>?_);rw [bj i om,rows_atG a0 om om];show _=e_ ((trisE nd es).map λl=>(l.length:Int)) (i:Int);rw [Cy _ _ (show i<(trisE nd es).length by omega),Cy _ _<|by rw [List.length_map];omega,List.getElem_map]
 refine Ge2 (E1 (α:=Bool) (n:=Z.length) El ty4 C C C om om dc C) λau av=>?_
 refine Ga C<|Ad<|Af<|Gm C<|Ge2 (E1 (α:=Int) (n:=Z.length) Ab ef C C C om om dc C) λar ah=>?_
 refine Ga C<|Ad<|Am (S6 3 9 2 4 5 6 C C C C C C)<|Af<|Ga C<|Ad<|Ap<|Af<|Gm C<|Gm C<|Ad<|A0<|B1 (σ:=Nat×TrS×(Option Addr)×Nat) (λs=>([(2,.slice s.2.2.1 s.2.1.ord.length s.2.2.2),(3,.slice ar (replicate Z.length (default:Int)).length ah),(4,.slice ai Z.length aj),(5,e7 ((Z.length:Nat):Int)),(6,.slice an (replicate Z.length (default:Int)).length ap),(9,.slice au (replicate Z.length (default:Bool)).length av),(10,e7<|s.2.1.k),(38,e7 ((Z.length:Nat):Int)),(39,e7 ((s.1:Nat):Int))]:Env)) (λs=>vc 3 (.slice s.2.2.1 s.2.1.ord.length s.2.2.2) (s.2.1.ord)::vc 3 (.slice ar (replicate Z.length (default:Int)).length ah) (s.2.1.num)::vc 4 (.slice au (replicate Z.length (default:Bool)).length av) (s.2.1.gone)::vc 3 (.slice an (replicate Z.length (default:Int)).length ap) (s.2.1.sup)::vc 198 (.slice ai Z.length aj) (Z)::e8 b1 [e7 nd,va] 38::(rgI Z++I)) (λs=>(s.1<=Z.length)/\(s.2.1=runTr (trisE nd es) s.1)/\(TrOk (nd.toNat - 1) (trisE nd es).length s.1 s.2.1)) (λs=>Z.length - s.1) (0,(startT<|trisE nd es),none,0) (show ((0:Nat)<=Z.length)/\(((startT<|trisE nd es):TrS)=runTr (trisE nd es) (0:Nat))/\(TrOk (nd.toNat - 1) (trisE nd es).length (0:Nat) ((startT<|trisE nd es):TrS)) from ⟨om,rfl,(TrOk.start a3)⟩) (Aa (Dd C<|by first|rfl|simp)<|Aa C<|Aa C<|Aa C<|Aa C<|Aa C<|Aa (Ej C<|by first|omega|rfl|((try dsimp only);first|exact best_yes (by simpa using M) (by first|exact .inl aa|exact .inr ab)|exact (best_yes (by simpa using M)<|by first|exact .inl aa|exact .inr ab).symm|exact best_no (by first|(left;simpa using M)|exact .inr ⟨aa,ab⟩)|exact (best_no<|by first|(left;simpa using M)|exact .inr ⟨aa,ab⟩).symm))<|Aa C<|Aa (Ej C<|by first|omega|rfl|((try dsimp only);first|exact best_yes (by simpa using M) (by first|exact .inl aa|exact .inr ab)|exact (best_yes (by simpa using M)<|by first|exact .inl aa|exact .inr ab).symm|exact best_no (by first|(left;simpa using M)|exact .inr ⟨aa,ab⟩)|exact (best_no<|by first|(left;simpa using M)|exact .inr ⟨aa,ab⟩).symm)) Bl) (show Fit κ _ (vc 3 (.slice none ((startT<|trisE nd es)).ord.length 0) (((startT<|trisE nd es)).ord)::vc 3 (.slice ar (replicate Z.length (default:Int)).length ah) (((startT<|trisE nd es)).num)::vc 4 (.slice au (replicate Z.length (default:Bool)).length av) (((startT<|trisE nd es)).gone)::vc 3 (.slice an (replicate Z.length (default:Int)).length ap) (((startT<|trisE nd es)).sup)::vc 198 (.slice ai Z.length aj) (Z)::e8 b1 [e7 nd,va] 38::(rgI Z++I)) from (by rw [←bg];exact Cv (Cm (α:=Int) _ _)<|by rw [a8];exact Bm)) ?_
 rintro ⟨j,tr,ao,co⟩ hp
 dsimp only at hp ⊢
 obtain ⟨hj,bc,aw⟩:=hp
 have bn:=aw.slen
 have bm:=aw.glen
 have b6:=aw.nlen
 have b7:=aw.olen
 have b9:=aw.k
 have b4:2*(((nd.toNat - 1:Nat)):Int)*(j:Int)<=126*(j:Int):=Int.mul_le_mul_of_nonneg_right om om
 refine Af<|Gr (Bb C C)<|Ad<|Ap<|A8 C (λbo=>?_)<|λbo=>?_
 ·refine Aw (Ah<|Ap<|A0<|Af<|Ga C<|Ad<|Ap<|Af<|Gm C<|Gm C<|Ad<|A0<|B1 (σ:=Nat) (λs=>([(2,.slice ao tr.ord.length co),(3,.slice ar (replicate Z.length (default:Int)).length ah),(4,.slice ai Z.length aj),(5,e7 ((Z.length:Nat):Int)),(6,.slice an (replicate Z.length (default:Int)).length ap),(9,.slice au (replicate Z.length (default:Bool)).length av),(10,e7<|tr.k),(11,e7<|bestT tr.sup tr.gone s),(38,e7 ((Z.length:Nat):Int)),(39,e7<|(j:Int)),(41,e7 ((Z.length:Nat):Int)),(42,e7 ((s:Nat):Int))]:Env)) (λs=>vc 3 (.slice ao tr.ord.length co) (tr.ord)::vc 3 (.slice ar (replicate Z.length (default:Int)).length ah) (tr.num)::vc 4 (.slice au (replicate Z.length (default:Bool)).length av) (tr.gone)::vc 3 (.slice an (replicate Z.length (default:Int)).length ap) (tr.sup)::vc 198 (.slice ai Z.length aj) (Z)::e8 b1 [e7 nd,va] 38::(rgI Z++I)) (λs=>(s<=Z.length)) (λs=>Z.length - s) 0 (show ((0:Nat)<=Z.length) from om) (Aa C<|Aa C<|Aa C<|Aa C<|Aa C<|Aa C<|Aa C<|Aa (Ej C<|by first|omega|rfl|((try dsimp only);first|exact best_yes (by simpa using M) (by first|exact .inl aa|exact .inr ab)|exact (best_yes (by simpa using M)<|by first|exact .inl aa|exact .inr ab).symm|exact best_no (by first|(left;simpa using M)|exact .inr ⟨aa,ab⟩)|exact (best_no<|by first|(left;simpa using M)|exact .inr ⟨aa,ab⟩).symm))<|Aa C<|Aa C<|Aa C<|Aa (Ej C<|by first|omega|rfl|((try dsimp only);first|exact best_yes (by simpa using M) (by first|exact .inl aa|exact .inr ab)|exact (best_yes (by simpa using M)<|by first|exact .inl aa|exact .inr ab).symm|exact best_no (by first|(left;simpa using M)|exact .inr ⟨aa,ab⟩)|exact (best_no<|by first|(left;simpa using M)|exact .inr ⟨aa,ab⟩).symm)) Bl) (show Fit κ _ (vc 3 (.slice ao tr.ord.length co) (tr.ord)::vc 3 (.slice ar (replicate Z.length (default:Int)).length ah) (tr.num)::vc 4 (.slice au (replicate Z.length (default:Bool)).length av) (tr.gone)::vc 3 (.slice an (replicate Z.length (default:Int)).length ap) (tr.sup)::vc 198 (.slice ai Z.length aj) (Z)::e8 b1 [e7 nd,va] 38::(rgI Z++I)) from Bf) ?_)
  rintro i2 hp
  have cc:=hp
  have b5:=bestT_lt tr.sup tr.gone i2
  refine Af<|Gr (Bb C C)<|Ad<|Ap<|A8 C (λbq=>?_)<|λbq=>?_
  ·refine Aw (Ah<|Ap<|A0<|Af<|Gm C<|Ga C<|Ad<|Am (S13 12 2 3 4 5 6 9 10 11 38 39 41 42 C C C C C C C C C C C C C)<|Ap<|Bq mixed<|Cc (vc 3 (.slice ao tr.ord.length co) (tr.ord)::vc 3 (.slice ar (replicate Z.length (default:Int)).length ah) (tr.num)::vc 4 (.slice au (replicate Z.length (default:Bool)).length av) (tr.gone)::vc 3 (.slice an (replicate Z.length (default:Int)).length ap) (tr.sup)::vc 198 (.slice ai Z.length aj) (Z)::e8 b1 [e7 nd,va] 38::(rgI Z++I)) 20<|Dr 0 C (Ai C)<|Dr 1 C (Ai C)<|Dr 2 C (Az (α:=Bool) (xs:=tr.gone) El ty4 C C Bh om oo)<|Dr 3 C (Runs.getB (xs:=tr.gone) ty4 C Bh om oo)<|Dr 4 C (Cr C)<|Dr 5 C (Ai C)<|D.splitb (d:=50) C (λM=>?_)<|λM=>?_)
   ·refine Dro 6 C (Ai C) (Dro 7 C (Bb C C)<|Dro 8 C (Ai C)<|Ey (d:=53) C (λaa=>?_)<|λaa=>?_)
    ·exact Dpo 9 C<|Dpo 10 C<|Dpo 11 C<|Dpo 12 C<|Dpo 13 C<|Dpo 14 C<|Dpo 15 C<|Dpo 16 C<|Dpo 17 C<|Dro 18 C (A3 C C)<|Dr 19 C (A3 C C)<|Dz<|Ah<|Am (S14 64 12 2 3 4 5 6 9 10 11 38 39 41 42 C C C C C C C C C C C C C C)<|Dp C<|Au<|Gm C<|Ga C<|Bo<|Al<|Ah<|Am (S12 11 2 3 4 5 6 9 10 38 39 41 42 C C C C C C C C C C C C)<|Au<|Gr (Rad C C)<|Gm C<|Bo<|Cf ((i2+1)) om (hL:=(Aa C<|Aa C<|Aa C<|Aa C<|Aa C<|Aa C<|Aa C<|Aa (Ej C<|by first|omega|rfl|((try dsimp only);first|exact best_yes (by simpa using M) (by first|exact .inl aa|exact .inr ab)|exact (best_yes (by simpa using M)<|by first|exact .inl aa|exact .inr ab).symm|exact best_no (by first|(left;simpa using M)|exact .inr ⟨aa,ab⟩)|exact (best_no<|by first|(left;simpa using M)|exact .inr ⟨aa,ab⟩).symm))<|Aa C<|Aa C<|Aa C<|Aa (Ej C<|by first|omega|rfl|((try dsimp only);first|exact best_yes (by simpa using M) (by first|exact .inl aa|exact .inr ab)|exact (best_yes (by simpa using M)<|by first|exact .inl aa|exact .inr ab).symm|exact best_no (by first|(left;simpa using M)|exact .inr ⟨aa,ab⟩)|exact (best_no<|by first|(left;simpa using M)|exact .inr ⟨aa,ab⟩).symm)) Bl))
    refine Dro 9 C (Ai C)<|Dro 10 C (Ai C)<|Dro 11 C (Az (α:=Int) (xs:=tr.sup) Ab ef C C Bh om oo)<|Dro 12 C (Bw (xs:=tr.sup) ef C Bh om oo)<|Dro 13 C (Ai C)<|Dro 14 C (Ai C)<|Dro 15 C (Az (α:=Int) (xs:=tr.sup) Ab ef C C Bh om oo)<|Dro 16 C (Bw (xs:=tr.sup) ef C Bh om oo)<|Dro 17 C (Bb C C)<|Dro 18 C (Bd C C)<|Dr 19 C (A3 C C)<|Dz<|Ah<|Am (S14 64 12 2 3 4 5 6 9 10 11 38 39 41 42 C C C C C C C C C C C C C C)<|A8 C (λab=>?_)<|λab=>?_
    ·exact Au<|Gm C<|Ga C<|Bo<|Al<|Ah<|Am (S12 11 2 3 4 5 6 9 10 38 39 41 42 C C C C C C C C C C C C)<|Au<|Gr (Rad C C)<|Gm C<|Bo<|Cf ((i2+1)) om (hL:=(Aa C<|Aa C<|Aa C<|Aa C<|Aa C<|Aa C<|Aa C<|Aa (Ej C<|by first|omega|rfl|((try dsimp only);first|exact best_yes (by simpa using M) (by first|exact .inl aa|exact .inr ab)|exact (best_yes (by simpa using M)<|by first|exact .inl aa|exact .inr ab).symm|exact best_no (by first|(left;simpa using M)|exact .inr ⟨aa,ab⟩)|exact (best_no<|by first|(left;simpa using M)|exact .inr ⟨aa,ab⟩).symm))<|Aa C<|Aa C<|Aa C<|Aa (Ej C<|by first|omega|rfl|((try dsimp only);first|exact best_yes (by simpa using M) (by first|exact .inl aa|exact .inr ab)|exact (best_yes (by simpa using M)<|by first|exact .inl aa|exact .inr ab).symm|exact best_no (by first|(left;simpa using M)|exact .inr ⟨aa,ab⟩)|exact (best_no<|by first|(left;simpa using M)|exact .inr ⟨aa,ab⟩).symm)) Bl))
    exact Aw<|Al<|Ah<|Am (S12 2 3 4 5 6 9 10 11 38 39 41 42 C C C C C C C C C C C C)<|Au<|Gr (Rad C C)<|Gm C<|Bo<|Cf ((i2+1)) om (hL:=(Aa C<|Aa C<|Aa C<|Aa C<|Aa C<|Aa C<|Aa C<|Aa (Ej C<|by first|omega|rfl|((try dsimp only);first|exact best_yes (by simpa using M) (by first|exact .inl aa|exact .inr ab)|exact (best_yes (by simpa using M)<|by first|exact .inl aa|exact .inr ab).symm|exact best_no (by first|(left;simpa using M)|exact .inr ⟨aa,ab⟩)|exact (best_no<|by first|(left;simpa using M)|exact .inr ⟨aa,ab⟩).symm))<|Aa C<|Aa C<|Aa C<|Aa (Ej C<|by first|omega|rfl|((try dsimp only);first|exact best_yes (by simpa using M) (by first|exact .inl aa|exact .inr ab)|exact (best_yes (by simpa using M)<|by first|exact .inl aa|exact .inr ab).symm|exact best_no (by first|(left;simpa using M)|exact .inr ⟨aa,ab⟩)|exact (best_no<|by first|(left;simpa using M)|exact .inr ⟨aa,ab⟩).symm)) Bl))
   exact Dpo 6 C<|Dpo 7 C<|Dpo 8 C<|Dpu 9 C<|Dpu 10 C<|Dpu 11 C<|Dpu 12 C<|Dpu 13 C<|Dpu 14 C<|Dpu 15 C<|Dpu 16 C<|Dpu 17 C<|Dpo 18 C<|Dr 19 C (Bd C C)<|Dz<|Ah<|Am (S14 64 12 2 3 4 5 6 9 10 11 38 39 41 42 C C C C C C C C C C C C C C)<|Dw C<|Aw<|Al<|Ah<|Am (S12 2 3 4 5 6 9 10 11 38 39 41 42 C C C C C C C C C C C C)<|Au<|Gr (Rad C C)<|Gm C<|Bo<|Cf ((i2+1)) om (hL:=(Aa C<|Aa C<|Aa C<|Aa C<|Aa C<|Aa C<|Aa C<|Aa (Ej C<|by first|omega|rfl|((try dsimp only);first|exact best_yes (by simpa using M) (by first|exact .inl aa|exact .inr ab)|exact (best_yes (by simpa using M)<|by first|exact .inl aa|exact .inr ab).symm|exact best_no (by first|(left;simpa using M)|exact .inr ⟨aa,ab⟩)|exact (best_no<|by first|(left;simpa using M)|exact .inr ⟨aa,ab⟩).symm))<|Aa C<|Aa C<|Aa C<|Aa (Ej C<|by first|omega|rfl|((try dsimp only);first|exact best_yes (by simpa using M) (by first|exact .inl aa|exact .inr ab)|exact (best_yes (by simpa using M)<|by first|exact .inl aa|exact .inr ab).symm|exact best_no (by first|(left;simpa using M)|exact .inr ⟨aa,ab⟩)|exact (best_no<|by first|(left;simpa using M)|exact .inr ⟨aa,ab⟩).symm)) Bl))
  refine Bx<|Ao<|Ao<|A9<|Ah<|Af<|Gm C ?_
  obtain ⟨b,be⟩:∃b,bestT tr.sup tr.gone i2=b:=⟨_,rfl⟩
  have bf:bestT tr.sup tr.gone (trisE nd es).length=b:=by rw [←be,show i2=(trisE nd es).length by omega]
  have a4:=aw.best om
  rw [bf] at a4
  rw [be]
  have b3:=aw.sup _ (Ca (xs:=tr.sup) (i:=b) a4.1 om)
  refine Gm C<|Gm C<|Gr (Az (α:=Int) (xs:=tr.sup) Ab ef C C Bh om oo)<|Gr (Bw (xs:=tr.sup) ef C Bh om oo)<|Gr (Do C C) ?_
  have bp:(if tr.k<(e_ tr.sup b) then (e_ tr.sup b) else tr.k)=(max tr.k<|e_ tr.sup b):=by split<;>omega
  rw [bp]
  refine Ga C<|Ad<|Am (S10 10 2 3 4 5 6 9 11 38 39 C C C C C C C C C C)<|Af<|Gm C<|Gm C<|Gm C<|Gm C<|Gm C<|Gr (Az (α:=Int) (xs:=tr.num) Ab ef C C Bh om oo)<|Ge0 (Cx (α:=Int) (xs:=tr.num) (e:=3) (new:=(max tr.k<|e_ tr.sup b)) ef C C C om oo am) ?_
  refine Gr (Az (α:=Bool) (xs:=tr.gone) El ty4 C C Bh om oo)<|Ge0 (Cx (α:=Bool) (xs:=tr.gone) (e:=4) (new:=true) ty4 C C C om oo am) ?_
  refine Ad<|Am (S10 10 2 3 4 5 6 9 11 38 39 C C C C C C C C C C)<|Af<|Gm C<|Gm C<|Ge1 (Co (α:=Int) (cs:=[_]) (xs:=[b]) Ab ef C C dc dc C C C C) λba=>?_
  refine Ge2 (Cp (α:=Int) (e:=3) (xs:=tr.ord) (ys:=([b]:List Int)) Ab ef C C C mm Bh lcn dc C<|λ_ _=>am) λa1 az=>?_
  refine Ga C<|Ad<|Am (S10 2 10 3 4 5 6 9 11 38 39 C C C C C C C C C C)<|Af<|Gm C<|Gm C<|Gr (Az (α:=(RowG Pt)) (xs:=Z) Db ty198 C C Bh om oo)<|Gr (B4 (α:=(RowG Pt)) (xs:=Z) (u:= .slice (e_ Z b).a (e_ Z b).xs.length (e_ Z b).c) ty198 C Bh om oo C)<|Gr (Bj Bz C)<|Gm C<|Ad<|Am (S12 89 88 87 2 10 3 4 5 6 9 38 39 C C C C C C C C C C C C)<|A0<|B1 (σ:=Nat×(List Int)) (λs=>([(2,.slice a1 (tr.ord++([b]:List Int)).length az),(3,.slice ar (replicate Z.length (default:Int)).length ah),(4,.slice ai Z.length aj),(5,e7 ((Z.length:Nat):Int)),(6,.slice an (replicate Z.length (default:Int)).length ap),(9,.slice au (replicate Z.length (default:Bool)).length av),(10,e7<|(max tr.k<|e_ tr.sup b)),(38,e7 ((Z.length:Nat):Int)),(39,e7 ((j:Nat):Int)),(87,.slice (e_ Z b).a (e_ Z b).xs.length (e_ Z b).c),(88,e7<|(((e_ Z b).xs.length:Nat):Int)),(89,e7 ((s.1:Nat):Int))]:Env)) (λs=>vc 3 (.slice ba 1 1) (([b]:List Int))::vc 3 (.slice a1 (tr.ord++([b]:List Int)).length az) (tr.ord++([b]:List Int))::vc 3 (.slice ar (replicate Z.length (default:Int)).length ah) (List.set tr.num (b).toNat ((max tr.k<|e_ tr.sup b)))::vc 4 (.slice au (replicate Z.length (default:Bool)).length av) (List.set tr.gone (b).toNat (true))::vc 3 (.slice an (replicate Z.length (default:Int)).length ap) (s.2)::vc 198 (.slice ai Z.length aj) (Z)::e8 b1 [e7 nd,va] 38::(rgI Z++I)) (λs=>(s.1<=(e_ Z b).xs.length)/\(s.2=((e_ Z b).xs.take s.1).foldl (lowT<|List.set tr.gone (b).toNat (true)) tr.sup)/\(s.2.length=(trisE nd es).length)/\(∀x∈s.2, -(126*((j:Nat):Int)) - 2*((s.1:Nat):Int)<=x/\x<=64)) (λs=>(e_ Z b).xs.length - s.1) (0,tr.sup) (show ((0:Nat)<=(e_ Z b).xs.length)/\((tr.sup:List Int)=((e_ Z b).xs.take (0:Nat)).foldl (lowT<|List.set tr.gone (b).toNat (true)) tr.sup)/\((tr.sup:List Int).length=(trisE nd es).length)/\(∀x∈(tr.sup:List Int), -(126*((j:Nat):Int)) - 2*(((0:Nat):Nat):Int)<=x/\x<=64) from ⟨om,rfl,bn,(λx hx=>by have:=aw.sup x hx;omega)⟩) (Aa C<|Aa C<|Aa C<|Aa C<|Aa C<|Aa C<|Aa C<|Aa C<|Aa C<|Aa C<|Aa C<|Aa (Ej C<|by first|omega|rfl|((try dsimp only);first|exact best_yes (by simpa using M) (by first|exact .inl aa|exact .inr ab)|exact (best_yes (by simpa using M)<|by first|exact .inl aa|exact .inr ab).symm|exact best_no (by first|(left;simpa using M)|exact .inr ⟨aa,ab⟩)|exact (best_no<|by first|(left;simpa using M)|exact .inr ⟨aa,ab⟩).symm)) Bl) (show Fit κ _ (vc 3 (.slice ba 1 1) (([b]:List Int))::vc 3 (.slice a1 (tr.ord++([b]:List Int)).length az) (tr.ord++([b]:List Int))::vc 3 (.slice ar (replicate Z.length (default:Int)).length ah) (List.set tr.num (b).toNat ((max tr.k<|e_ tr.sup b)))::vc 4 (.slice au (replicate Z.length (default:Bool)).length av) (List.set tr.gone (b).toNat (true))::vc 3 (.slice an (replicate Z.length (default:Int)).length ap) ((tr.sup))::vc 198 (.slice ai Z.length aj) (Z)::e8 b1 [e7 nd,va] 38::(rgI Z++I)) from Bf) ?_
  rintro ⟨q,ad⟩ hp
  dsimp only at hp ⊢
  obtain ⟨hq,a6,ax,a5⟩:=hp
  have bk:(e_ Z b).xs∈(trisE nd es):=by rw [rows_atG a0 a4.1 om];exact Ca a4.1 a4.2.1
  have b2:=a3.len _ bk
  have bv:(List.set tr.gone (b).toNat (true)).length=(trisE nd es).length:=by rw [List.length_set];exact bm
  have a7:q<(e_ Z b).xs.length->0<=(e_ (e_ Z b).xs (q:Int)).u/\(e_ (e_ Z b).xs (q:Int)).u<(trisE nd es).length/\0<=(e_ (e_ Z b).xs (q:Int)).v/\(e_ (e_ Z b).xs (q:Int)).v<(trisE nd es).length:=λh=>a3.rng _ bk _ (Ca om om)
  refine Af<|Gr (Bb C C)<|Ad<|Ap<|A8 C (λbt=>?_)<|λbt=>?_
  ·refine Aw (Ah<|Ap<|A0<|Af<|Gr (Az (α:=Pt) (xs:=(e_ Z b).xs) Bz ty200 C C (C8<|by repeat (first|exact rgI_mem (rs:=Z) (i:=b) om om|apply List.mem_cons_of_mem)) om oo)<|Gr (B2 (α:=Pt) (xs:=(e_ Z b).xs) ty200 C (C8<|by repeat (first|exact rgI_mem (rs:=Z) (i:=b) om om|apply List.mem_cons_of_mem)) om oo) ?_)
   have bz:=a7 om
   have ca:=a5 _ (Ca (xs:=ad) (i:=(e_ (e_ Z b).xs (q:Int)).u) om om)
   refine Ge1 (A2 ty200 C) λcb=>Ge0 (Da ty200) ?_
   refine Ad<|Am (S13 14 2 3 4 5 6 9 10 38 39 87 88 89 C C C C C C C C C C C C C)<|Af<|Gm C<|Gr (B7 B8 ty2 C C om om)<|Gl ef ?_
   refine Gr (Az (α:=Bool) (xs:=List.set tr.gone (b).toNat (true)) El ty4 C C Bh om oo)<|Gr (Runs.getB (xs:=List.set tr.gone (b).toNat (true)) ty4 C Bh om oo)<|Gr (Cr C)<|Gm C<|G.splitb (d:=99) C (λaq=>?_)<|λaq=>?_
   ·refine e9 (Ai C) (e9 (B7 B8 ty2 C C om om)<|e9 (A7 ef) ?_)
    refine e9 (Az (α:=Bool) (xs:=List.set tr.gone (b).toNat (true)) El ty4 C C Bh om oo)<|e9 (Runs.getB (xs:=List.set tr.gone (b).toNat (true)) ty4 C Bh om oo)<|e9 (Cr C)<|Gr (A3 C C)<|Ad<|Am (S14 106 14 2 3 4 5 6 9 10 38 39 87 88 89 C C C C C C C C C C C C C C)<|Eg C (λae=>?_)<|λae=>?_
    ·refine Af (Gm C<|Gr (B7 B8 ty2 C C om om)<|Gl ef ?_)
     refine Gr (Az (α:=Int) (xs:=ad) Ab ef C C Bh om oo)<|Gr (Bw (xs:=ad) ef C Bh om oo)<|Gr (Rsu C C)<|Gr (Az (α:=Int) (xs:=ad) Ab ef C C Bh om oo)<|Ge0 (Cx (α:=Int) (xs:=ad) (e:=3) (new:=(e_ ad<|(e_ ((e_ Z b).xs) (q:Int)).u) - 1) ef C C C om oo am) ?_
     have b8 : -(126*(j:Int)) - 2*(q:Int) - 1<=e_ (List.set ad ((e_ ((e_ Z b).xs) (q:Int)).u).toNat ((e_ ad<|(e_ ((e_ Z b).xs) (q:Int)).u) - 1)) (e_ (e_ Z b).xs (q:Int)).v/\e_ (List.set ad ((e_ ((e_ Z b).xs) (q:Int)).u).toNat ((e_ ad<|(e_ ((e_ Z b).xs) (q:Int)).u) - 1)) (e_ (e_ Z b).xs (q:Int)).v<=64:=by rw [Ef _ _ _ _ om om om];have:=a5 _ (Ca (xs:=ad) (i:=(e_ (e_ Z b).xs (q:Int)).v) om om);split<;>omega
     refine Ad<|Am (S13 14 2 3 4 5 6 9 10 38 39 87 88 89 C C C C C C C C C C C C C)<|Au<|Gm C<|Gr (B7 B8 ty2 C C om om)<|Gl ef ?_
     refine Gr (Az (α:=Int) (xs:=List.set ad ((e_ ((e_ Z b).xs) (q:Int)).u).toNat ((e_ ad<|(e_ ((e_ Z b).xs) (q:Int)).u) - 1)) Ab ef C C Bh om oo)<|Gr (Bw (xs:=List.set ad ((e_ ((e_ Z b).xs) (q:Int)).u).toNat ((e_ ad<|(e_ ((e_ Z b).xs) (q:Int)).u) - 1)) ef C Bh om oo)<|Gr (Rsu C C)<|Gr (Az (α:=Int) (xs:=List.set ad ((e_ ((e_ Z b).xs) (q:Int)).u).toNat ((e_ ad<|(e_ ((e_ Z b).xs) (q:Int)).u) - 1)) Ab ef C C Bh om oo)<|Ge0 (Cx (α:=Int) (xs:=List.set ad ((e_ ((e_ Z b).xs) (q:Int)).u).toNat ((e_ ad<|(e_ ((e_ Z b).xs) (q:Int)).u) - 1)) (e:=3) (new:=(e_ (List.set ad ((e_ ((e_ Z b).xs) (q:Int)).u).toNat ((e_ ad<|(e_ ((e_ Z b).xs) (q:Int)).u) - 1))<|(e_ ((e_ Z b).xs) (q:Int)).v) - 1) ef C C C om oo am) ?_
     refine Bo<|Al<|Ah<|Am (S12 2 3 4 5 6 9 10 38 39 87 88 89 C C C C C C C C C C C C)<|Au<|Gr (Rad C C)<|Gm C<|Bo ?_
     have ay:((e_ Z b).xs.take (q+1)).foldl (lowT<|List.set tr.gone (b).toNat (true)) tr.sup=lowT (List.set tr.gone (b).toNat (true)) ad (e_ (e_ Z b).xs (q:Int)):=by rw [Cl _ q om,List.foldl_append,←a6];rfl
     have ak:=lowT_rng (gone:=(List.set tr.gone (b).toNat (true))) (p:=(e_ (e_ Z b).xs (q:Int))) (by have:=a7 om;omega) a5
     have bh:=lowT_len (List.set tr.gone (b).toNat (true)) ad (e_ (e_ Z b).xs (q:Int))
     exact Cf ((q+1),(List.set (List.set ad ((e_ ((e_ Z b).xs) (q:Int)).u).toNat ((e_ ad<|(e_ ((e_ Z b).xs) (q:Int)).u) - 1)) ((e_ ((e_ Z b).xs) (q:Int)).v).toNat ((e_ (List.set ad ((e_ ((e_ Z b).xs) (q:Int)).u).toNat ((e_ ad<|(e_ ((e_ Z b).xs) (q:Int)).u) - 1))<|(e_ ((e_ Z b).xs) (q:Int)).v) - 1))) (by dsimp only;exact ⟨om,(by rw [ay];first|exact (low_yes (by simpa using aq)<|by simpa using ae).symm|exact (low_no<|by first|(left;simpa using aq)|(right;simpa using ae)).symm),(by first|exact ax|(simp only [List.length_set];exact ax)),(by first|(rw [low_yes (by simpa using aq) (by simpa using ae)] at ak;exact λx hx=>by have:=ak x hx;push_cast;omega)|(rw [low_no (by first|(left;simpa using aq)|(right;simpa using ae))] at ak;exact λx hx=>by have:=ak x hx;push_cast;omega))⟩) (hL:=(Aa C<|Aa C<|Aa C<|Aa C<|Aa C<|Aa C<|Aa C<|Aa C<|Aa C<|Aa C<|Aa C<|Aa (Ej C<|by first|omega|rfl|((try dsimp only);first|exact best_yes (by simpa using M) (by first|exact .inl aa|exact .inr ab)|exact (best_yes (by simpa using M)<|by first|exact .inl aa|exact .inr ab).symm|exact best_no (by first|(left;simpa using M)|exact .inr ⟨aa,ab⟩)|exact (best_no<|by first|(left;simpa using M)|exact .inr ⟨aa,ab⟩).symm)) Bl))
    refine Aw<|Al<|Ah<|Am (S12 2 3 4 5 6 9 10 38 39 87 88 89 C C C C C C C C C C C C)<|Au<|Gr (Rad C C)<|Gm C<|Bo ?_
    have ay:((e_ Z b).xs.take (q+1)).foldl (lowT<|List.set tr.gone (b).toNat (true)) tr.sup=lowT (List.set tr.gone (b).toNat (true)) ad (e_ (e_ Z b).xs (q:Int)):=by rw [Cl _ q om,List.foldl_append,←a6];rfl
    have ak:=lowT_rng (gone:=(List.set tr.gone (b).toNat (true))) (p:=(e_ (e_ Z b).xs (q:Int))) (by have:=a7 om;omega) a5
    have bh:=lowT_len (List.set tr.gone (b).toNat (true)) ad (e_ (e_ Z b).xs (q:Int))
    exact Cf ((q+1),(ad)) (by dsimp only;exact ⟨om,(by rw [ay];first|exact (low_yes (by simpa using aq)<|by simpa using ae).symm|exact (low_no<|by first|(left;simpa using aq)|(right;simpa using ae)).symm),(by first|exact ax|(simp only [List.length_set];exact ax)),(by first|(rw [low_yes (by simpa using aq) (by simpa using ae)] at ak;exact λx hx=>by have:=ak x hx;push_cast;omega)|(rw [low_no (by first|(left;simpa using aq)|(right;simpa using ae))] at ak;exact λx hx=>by have:=ak x hx;push_cast;omega))⟩) (hL:=(Aa C<|Aa C<|Aa C<|Aa C<|Aa C<|Aa C<|Aa C<|Aa C<|Aa C<|Aa C<|Aa C<|Aa (Ej C<|by first|omega|rfl|((try dsimp only);first|exact best_yes (by simpa using M) (by first|exact .inl aa|exact .inr ab)|exact (best_yes (by simpa using M)<|by first|exact .inl aa|exact .inr ab).symm|exact best_no (by first|(left;simpa using M)|exact .inr ⟨aa,ab⟩)|exact (best_no<|by first|(left;simpa using M)|exact .inr ⟨aa,ab⟩).symm)) Bl))
   refine eb<|eb<|eb<|eb<|eb<|eb<|Gr (Bd C C)<|Ad<|Am (S14 106 14 2 3 4 5 6 9 10 38 39 87 88 89 C C C C C C C C C C C C C C)<|Dw C<|Aw<|Al<|Ah<|Am (S12 2 3 4 5 6 9 10 38 39 87 88 89 C C C C C C C C C C C C)<|Au<|Gr (Rad C C)<|Gm C<|Bo ?_
   have ay:((e_ Z b).xs.take (q+1)).foldl (lowT<|List.set tr.gone (b).toNat (true)) tr.sup=lowT (List.set tr.gone (b).toNat (true)) ad (e_ (e_ Z b).xs (q:Int)):=by rw [Cl _ q om,List.foldl_append,←a6];rfl
   have ak:=lowT_rng (gone:=(List.set tr.gone (b).toNat (true))) (p:=(e_ (e_ Z b).xs (q:Int))) (by have:=a7 om;omega) a5
   have bh:=lowT_len (List.set tr.gone (b).toNat (true)) ad (e_ (e_ Z b).xs (q:Int))
   exact Cf ((q+1),(ad)) (by dsimp only;exact ⟨om,(by rw [ay];first|exact (low_yes (by simpa using aq)<|by simpa using ae).symm|exact (low_no<|by first|(left;simpa using aq)|(right;simpa using ae)).symm),(by first|exact ax|(simp only [List.length_set];exact ax)),(by first|(rw [low_yes (by simpa using aq) (by simpa using ae)] at ak;exact λx hx=>by have:=ak x hx;push_cast;omega)|(rw [low_no (by first|(left;simpa using aq)|(right;simpa using ae))] at ak;exact λx hx=>by have:=ak x hx;push_cast;omega))⟩) (hL:=(Aa C<|Aa C<|Aa C<|Aa C<|Aa C<|Aa C<|Aa C<|Aa C<|Aa C<|Aa C<|Aa C<|Aa (Ej C<|by first|omega|rfl|((try dsimp only);first|exact best_yes (by simpa using M) (by first|exact .inl aa|exact .inr ab)|exact (best_yes (by simpa using M)<|by first|exact .inl aa|exact .inr ab).symm|exact best_no (by first|(left;simpa using M)|exact .inr ⟨aa,ab⟩)|exact (best_no<|by first|(left;simpa using M)|exact .inr ⟨aa,ab⟩).symm)) Bl))
  refine Bx<|Ao<|Ao<|A9<|Al<|Ah<|Au<|Gr (Rad C C)<|Gm C<|Bo ?_
  have a9:(TrS.mk ad (List.set tr.gone (b).toNat (true)) (List.set tr.num (b).toNat (max tr.k<|e_ tr.sup b)) (tr.ord++[b])<|max tr.k<|e_ tr.sup b)=stepTr (trisE nd es) tr:=by unfold stepTr;rw [bf,a6,List.take_of_length_le om,rows_atG a0 a4.1 om]
  exact Cf ((j+1),((TrS.mk ad (List.set tr.gone (b).toNat (true)) (List.set tr.num (b).toNat (max tr.k<|e_ tr.sup b)) (tr.ord++[b])<|max tr.k<|e_ tr.sup b)),(a1),(az)) (by dsimp only;exact ⟨om,(by rw [a9,bc];rfl),(by rw [a9];exact aw.step a3 om)⟩) (hL:=(Aa (Dd C<|by first|rfl|simp)<|Aa C<|Aa C<|Aa C<|Aa C<|Aa C<|Aa (Ej C<|by first|omega|rfl|((try dsimp only);first|exact best_yes (by simpa using M) (by first|exact .inl aa|exact .inr ab)|exact (best_yes (by simpa using M)<|by first|exact .inl aa|exact .inr ab).symm|exact best_no (by first|(left;simpa using M)|exact .inr ⟨aa,ab⟩)|exact (best_no<|by first|(left;simpa using M)|exact .inr ⟨aa,ab⟩).symm))<|Aa C<|Aa (Ej C<|by first|omega|rfl|((try dsimp only);first|exact best_yes (by simpa using M) (by first|exact .inl aa|exact .inr ab)|exact (best_yes (by simpa using M)<|by first|exact .inl aa|exact .inr ab).symm|exact best_no (by first|(left;simpa using M)|exact .inr ⟨aa,ab⟩)|exact (best_no<|by first|(left;simpa using M)|exact .inr ⟨aa,ab⟩).symm)) Bl))
 refine Bx<|Ao<|Ao<|A9<|Ah<|Af<|Gm C<|Gm C<|Ga C<|Ga C<|Ad<|Am (S2 3 2 C C)<|Ay ?_
 have bu:j=(trisE nd es).length:=by omega
 subst bu
 subst bc
 have bb:=aw.nlen
 exact De C C C (vc 3 (.slice ao (trussO<|trisE nd es).length co) (trussO<|trisE nd es)::vc 3 (.slice ar (trussN<|trisE nd es).length ah) (trussN<|trisE nd es)::I) (by show Fit κ _ (vc 3 _ _::vc 3 (.slice _ (runTr (trisE nd es) (trisE nd es).length).num.length _) (runTr (trisE nd es) (trisE nd es).length).num::I);rw [bb];simp only [List.length_replicate,a8];exact Bm) ⟨ao,co,ar,ah,by show _=Value.tuple #[_,.slice _ (runTr (trisE nd es) (trisE nd es).length).num.length _];rw [bb];simp only [List.length_replicate,a8];rfl,rfl⟩
def trussG(nd:Int)(es:List Pt):List Int:=if checkG nd es≠0 then [] else trussN (trisE nd es)
theorem trussG_bd{nd:Int}{es:List Pt}(M:GrOk nd es)(h1:1<=nd):∀x∈trussG nd es,0<=x/\x<=nd - 1:=λx Z=>by
 unfold trussG at Z
 rw [if_neg (λh=>h<|checkG_ok.2 M)] at Z
 have:=(trussN_bound<|tris_ok M).2 x Z
 omega
theorem TNumbers_ok{nd:Int}{es:List Pt}(hl:Sl κ I va es)(hb:es.length<=1000000)(hT:TabRd κ I 0 tzCells):eu Tryz.prog κ 85 [.agg #[e7 nd,va]] I (λr J=>∃a c,r = .tuple #[.slice a (trussG nd es).length c,e7 (checkG nd es)]/\J=vc 3 (.slice a (trussG nd es).length c) (trussG nd es)::I):=by
 refine Ce1 Tryz.func85 C C ?_
 refine Af<|Ge1 (Bc (cs:=[_,_]) C C C) λb1=>Ga C<|Ga C<|Ad<|Ap<|Af<|Gl2 ty38 ?_
 refine Gc0 (Aj c_ C C<|CheckGen_ok<|A6 hl) ?_
 refine Ga C<|Ad<|Af<|Gm C<|Gr (Bn C C)<|Ad<|A8 C (λc10=>?_)<|λc10=>?_
 ·refine Af (Gm C<|Ga C<|Ga C<|Ad<|Ay<|Aq ?_)
  have M:(trussG nd es)=[]:=if_pos c10
  exact De C C C (vc 3 (.slice none (trussG nd es).length 0) (trussG nd es)::I) (by rw [M];exact Cv (show Fit κ _ I from Av)<|Cm (α:=Int) _ _) ⟨none,0,by rw [M];rfl,rfl⟩
 refine Aw<|Ah<|Af<|Gl2 ty38 ?_
 refine G.e (Aj c_ C C<|TPeel_ok (nd:=nd) (A6 hl) (checkG_ok.1<|Classical.not_not.1 c10) om<|Bg hT Av) ?_
 rintro _ _ ⟨_,_,⟨ab,ad,Z,aa,rfl,rfl⟩,rfl,rfl⟩
 refine Gm C<|Gr (Ak C C)<|Gr (Ak C C)<|Ga C<|Ga C<|Ad<|Am (S1 6 C)<|Af<|Gm C<|Ga C<|Ga C<|Ad<|Ay ?_
 have M:(trussG nd es)=_:=if_neg c10
 have hz:checkG nd es=0:=Classical.not_not.1 c10
 exact De C C C (vc 3 (.slice Z (trussG nd es).length aa) (trussG nd es)::I) (by rw [M];exact Bf) ⟨Z,aa,by rw [M,hz]<;>rfl,rfl⟩
theorem nbL_len(es:List Pt)(v:Int):(nbL es v).length<=2*es.length:=by
 induction es with
 |nil=>simp [nbL]
 |cons e es ih=>
  have e1:nbL (e::es) v=((if e.u=v then [e.v] else [])++(if e.v=v then [e.u] else []))++nbL es v:=rfl
  rw [e1,List.length_append,List.length_append,List.length_cons]
  have M:(if e.u=v then [e.v] else ([]:List Int)).length<=1:=by split<;>simp
  have Z:(if e.v=v then [e.u] else ([]:List Int)).length<=1:=by split<;>simp
  omega


end Go.Sl
namespace Go.Sl
end Go.Sl
namespace Go.Sl
end Go.Sl
namespace Go.Sl
open Go.Proofs
set_option maxRecDepth 4000


end Go.Sl
namespace Go.Sl
end Go.Sl
namespace Go.Sl
open Go.Proofs
set_option maxRecDepth 4000
variable{b:Nat}{lv:Value}{ls:List Int}{i:Int}
variable {κ:Ctx}{I:List Item}
theorem MkWindowV_base(hl:∀q,Sl κ (deck b lv q::I) lv ls)(h0:0<=i)   :
    eu Tryz.prog κ 15 [.pointer (some ⟨b,0,none⟩)] (e8 b [lv,e7 i] 85::I) (λr J=>∃y:Int×Int×Int×Int,((r = .agg #[e7 y.1,e7 y.2.1,e7 y.2.2.1]/\checkW y.1 y.2.1 y.2.2.1=0)/\0<=y.2.2.2)/\J=[]++deck b lv y.2.2.2::I):=by
 refine Ce1 Tryz.func15 C C ?_
 refine Af<|Ge1 (A2 ty29 C) λb1=>Ad<|Ap<|Af<|Gm C<|G.e (Aj c_ C C<|Next_ok (by repeat (first|exact AtF.head _ _|apply AtF.tail)) (Bv (hl _) Av) om om) ?_
 rintro _ _ ⟨_,_,⟨Z,i3,rfl,aa,hi3,rfl⟩,rfl,rfl⟩
 show G Tryz.prog κ _ _ _ _ ([(4,e7 Z),(3,.pointer<|some ⟨b,0,none⟩),(2,.pointer<|some ⟨b1,0,none⟩),(0,.pointer<|some ⟨b,0,none⟩)]:Env) (e8 b1 [e7 0,e7 0,e7 0] 29::e8 b [lv,e7 i3] 85::I)
 refine Ad<|A0<|Af<|Gr (Bs C C)<|Ga C<|Ad<|A8 C (λc5=>?_)<|λc5=>?_
 ·refine Af (Gm C<|G.e (Aj c_ C C<|Next_ok (by repeat (first|exact AtF.head _ _|apply AtF.tail)) (Bv (hl _) Av) om om) ?_)
  rintro _ _ ⟨_,_,⟨x4,M,rfl,ab,ah,rfl⟩,rfl,rfl⟩
  show G Tryz.prog κ _ _ _ _ ([(8,e7 x4),(7,.pointer<|some ⟨b,0,none⟩),(5,.bool<|decide<|Z=1),(6,.bool<|decide<|Z=1),(4,e7 Z),(3,.pointer<|some ⟨b,0,none⟩),(2,.pointer<|some ⟨b1,0,none⟩),(0,.pointer<|some ⟨b,0,none⟩)]:Env) (e8 b1 [e7 0,e7 0,e7 0] 29::e8 b [lv,e7 M] 85::I)
  refine Gr (Rad C C)<|Gr (Bp (cells:=[_,_,_]) ty29 Eo pl29 C C)<|Ge0 (C9 ty29) ?_
  exact Ad<|Ay<|Be<|Aq<|E5 C ty29 C mm C (e8 b [lv,e7 M] 85::I) Bf ⟨(2,1+x4,0,M),⟨⟨rfl,by show checkW 2 (1+x4) (0)=0;unfold checkW;rw [if_neg om,if_neg om]⟩,by show 0<=M;omega⟩,rfl⟩
 refine Af<|Gr (Bs C C)<|Ga C<|Ad<|A8 C (λc11=>?_)<|λc11=>?_
 ·refine Af (Gm C<|G.e (Aj c_ C C<|Next_ok (by repeat (first|exact AtF.head _ _|apply AtF.tail)) (Bv (hl _) Av) om om) ?_)
  rintro _ _ ⟨_,_,⟨x6,i7,rfl,ae,ad,rfl⟩,rfl,rfl⟩
  show G Tryz.prog κ _ _ _ _ ([(14,e7 x6),(13,.pointer<|some ⟨b,0,none⟩),(11,.bool<|decide<|Z=2),(12,.bool<|decide<|Z=2),(5,.bool<|decide<|Z=1),(6,.bool<|decide<|Z=1),(4,e7 Z),(3,.pointer<|some ⟨b,0,none⟩),(2,.pointer<|some ⟨b1,0,none⟩),(0,.pointer<|some ⟨b,0,none⟩)]:Env) (e8 b1 [e7 0,e7 0,e7 0] 29::e8 b [lv,e7 i7] 85::I)
  refine Gr (Bp (cells:=[_,_,_]) ty29 Eo pl29 C C)<|Ge0 (C9 ty29) ?_
  exact Ad<|Ay<|Be<|Aq<|E5 C ty29 C mm C (e8 b [lv,e7 i7] 85::I) Bf ⟨(3,0,x6,i7),⟨⟨rfl,by show checkW 3 0 (x6)=0;unfold checkW;rw [if_neg om,if_neg om]⟩,by show 0<=i7;omega⟩,rfl⟩
 refine Aw<|Al<|Ah<|Af<|Gr (Bp (cells:=[_,_,_]) ty29 Eo pl29 C C)<|Ge0 (C9 ty29) ?_
 exact Ad<|Ay<|E5 C ty29 C mm C (e8 b [lv,e7 i3] 85::I) Bf ⟨(1,0,0,i3),⟨⟨rfl,by show checkW 1 0 (0)=0;unfold checkW;rw [if_neg om,if_neg om]⟩,by show 0<=i3;omega⟩,rfl⟩
theorem MkWindowV_at{F:Item->List Item}(M:AtF I (deck b lv i) F)(hl:∀q,Sl κ (F (deck b lv q)) lv ls)(h0:0<=i)   :
  eu Tryz.prog κ 15 [.pointer (some ⟨b,0,none⟩)] I λr J=>∃y:Int×Int×Int×Int,((r = .agg #[e7 y.1,e7 y.2.1,e7 y.2.2.1]/\checkW y.1 y.2.1 y.2.2.1=0)/\0<=y.2.2.2)/\J=[]++F (deck b lv y.2.2.2):=
 eu.at (Post:=λr (y:Int×Int×Int×Int)=>(r = .agg #[e7 y.1,e7 y.2.1,e7 y.2.2.1]/\checkW y.1 y.2.1 y.2.2.1=0)/\0<=y.2.2.2) (Z:=λy:Int×Int×Int×Int=>[]) (X:=λy:Int×Int×Int×Int=>deck b lv y.2.2.2) M λJ _ hF=>MkWindowV_base (λq=>(hl q).fit (hF _)) h0  








end Go.Sl
namespace Go.Sl
end Go.Sl
namespace Go.Sl
open Go.Proofs
set_option maxRecDepth 4000

theorem bit_maskB{l:List Int}{i:Nat}(hi:i<64):(maskB l).getLsbD i=true↔(i:Int)∈l:=by
 unfold maskB;rw [getLsb_maskB hi];simp






end Go.Sl
namespace Go.Sl
def ClosB(rows:List (BitVec 64))(k:Nat)(W:BitVec 64):Prop:=∀u∈eo W,k<=degB rows W u
theorem degB_mono{rows:List (BitVec 64)}{W L:BitVec 64}(h:∀u∈eo W,u∈eo L)(v:Int):degB rows W v<=degB rows L v:=by
 unfold degB
 refine List.Nodup.length_le_of_subset (listB_nodup _) λx hx=>?_
 obtain ⟨M,Z⟩:=mem_andB.1 hx
 exact mem_andB.2 ⟨M,h x Z⟩
theorem coreR_ind{rows:List (BitVec 64)}{X:BitVec 64->Nat->List (Int×Nat)->Prop}(h0:∀k,X 0#64 k [])
  (hs:∀left k v,Takes rows left v->X (left &&& ~~~(1#64 <<< v.toNat)) (max k<|degB rows left v) (coreR rows (left &&& ~~~(1#64 <<< v.toNat))<|max k<|degB rows left v)->X left k ((v,max k<|degB rows left v)::coreR rows (left &&& ~~~(1#64 <<< v.toNat)) (max k<|degB rows left v))) :
  ∀(n:Nat) (left:BitVec 64) (k:Nat),(eo left).length=n->X left k (coreR rows left k)
 |0,left,k,h=>by
  have:left=0#64:=Classical.byContradiction λhn=>by
   obtain ⟨u,hu⟩:=nz_listB.1 hn
   have:=List.length_pos_of_mem hu;omega
  subst this
  rw [coreR_zero];exact h0 k
 |n+1,left,k,h=>by
  have M:left≠0#64:=λe=>by subst e;rw [listB_zero] at h;simp at h
  have Z:=takeF_takes (rows:=rows) M
  rw [coreR_step Z]
  have hm:=listB_minus Z.mem
  exact hs _ _ _ Z<|coreR_ind h0 hs n _ _<|by omega
section
variable {rows:List (BitVec 64)}
theorem coreR_keys(left:BitVec 64)(k:Nat):(ordL (coreR rows left k)).Nodup/\(∀v,v∈ordL (coreR rows left k)↔v∈eo left):=by
 refine coreR_ind (rows:=rows) (X:=λleft k l=>(ordL l).Nodup/\∀v,v∈ordL l↔v∈eo left) (λk=>?_) (λleft k v M ih=>?_) _ left k rfl
 ·refine ⟨List.nodup_nil,λv=>?_⟩
  rw [listB_zero];exact Iff.rfl
 have Z:=(listB_lt M.mem).1
 obtain ⟨h1,h2⟩:=ih
 refine ⟨List.nodup_cons.2 ⟨λhm=>((mem_minus Z).1 ((h2 v).1 hm)).2 rfl,h1⟩,λu=>?_⟩
 show u∈v::ordL (coreR rows _ _)↔_
 rw [List.mem_cons,h2,mem_minus Z]
 constructor
 ·rintro (rfl|h)
  ·exact M.mem
  exact h.1
 intro h
 by_cases e:u=v
 ·exact .inl e
 exact .inr ⟨h,e⟩
theorem coreR_ge(left:BitVec 64)(k:Nat):∀p∈coreR rows left k,k<=p.2:=by
 refine coreR_ind (rows:=rows) (X:=λleft k l=>∀p∈l,k<=p.2) (λk p hp=>by cases hp) (λleft k v M Z p hp=>?_) _ left k rfl
 rcases List.mem_cons.1 hp with rfl|hp
 ·show k<=max k _;omega
 have:=Z p hp;omega
theorem coreR_clos{j:Nat}{W:BitVec 64}(hW:ClosB rows j W)(left:BitVec 64)(k:Nat):(∀u∈eo W,u∈eo left)->∀p∈coreR rows left k,p.1∈eo W->j<=p.2:=by
 refine coreR_ind (rows:=rows) (X:=λleft k l=>(∀u∈eo W,u∈eo left)->∀p∈l,p.1∈eo W->j<=p.2) (λk _ p hp=>by cases hp) (λleft k v hT ih Z p hp M=>?_) _ left k rfl
 have h0:=(listB_lt hT.mem).1
 by_cases hv:v∈eo W
 ·have h1:=hW v hv
  have h2:=degB_mono (rows:=rows) Z v
  rcases List.mem_cons.1 hp with rfl|hp
  ·show j<=max k _;omega
  have:=coreR_ge _ _ p hp;omega
 rcases List.mem_cons.1 hp with rfl|hp
 ·exact absurd M hv
 exact ih (λu hu=>(mem_minus h0).2 ⟨Z u hu,λe=>hv<|e▸hu⟩) p hp M
theorem coreR_core(left:BitVec 64)(k0:Nat):∀k,k0<k->∃W:BitVec 64,ClosB rows k W/\(∀u∈eo W,u∈eo left)/\∀p∈coreR rows left k0,k<=p.2↔p.1∈eo W:=by
 refine coreR_ind (rows:=rows) (X:=λleft k0 l=>∀k,k0<k->∃W:BitVec 64,ClosB rows k W/\(∀u∈eo W,u∈eo left)/\∀p∈l,k<=p.2↔p.1∈eo W) (λk0 k hk=>?_) (λleft k0 v hT ih k hk=>?_) _ left k0 rfl
 ·refine ⟨0#64,λu hu=>?_,λu hu=>hu,λp hp=>by cases hp⟩
  rw [listB_zero] at hu;cases hu
 have M:=(listB_lt hT.mem).1
 by_cases hc:k<=max k0 (degB rows left v)
 ·refine ⟨left,λu hu=>?_,λu hu=>hu,λp hp=>⟨λ_=>?_,λ_=>?_⟩⟩
  ·have:=hT.le u hu;omega
  ·rcases List.mem_cons.1 hp with rfl|hp
   ·exact hT.mem
   have Z:p.1∈ordL (coreR rows (left &&& ~~~(1#64 <<< v.toNat))<|max k0<|degB rows left v):=List.mem_map.2 ⟨p,hp,rfl⟩
   exact ((mem_minus M).1 (((coreR_keys _ _).2 _).1 Z)).1
  rcases List.mem_cons.1 hp with rfl|hp
  ·exact hc
  have:=coreR_ge _ _ p hp;omega
 obtain ⟨W,Z,h2,h3⟩:=ih k (by omega)
 refine ⟨W,Z,λu hu=>((mem_minus M).1 (h2 u hu)).1,λp hp=>?_⟩
 rcases List.mem_cons.1 hp with rfl|hp
 ·exact ⟨λh=>absurd h hc,λh=>absurd rfl ((mem_minus M).1 (h2 _ h)).2⟩
 exact h3 p hp
theorem numL_at{n:Nat}:∀{l:List (Int×Nat)},(ordL l).Nodup->(∀v∈ordL l,0<=v/\v<(n:Int))->∀p∈l,e_ (numL n l) p.1=(p.2:Int):=by
 intro l
 unfold numL
 have hk:∀(l:List (Int×Nat)) (xs:List Int) (u:Int),0<=u->(∀v∈ordL l,0<=v)->u∉ordL l->e_ (l.foldl (λxs p=>xs.set p.1.toNat (p.2:Int)) xs) u=e_ xs u:=λl=>by
  induction l with
  |nil=>intro xs u _ _ _;rfl
  |cons q l ih=>
   intro xs u hu h0 hn
   have hq:0<=q.1:=h0 q.1 List.mem_cons_self
   have ab:u≠q.1:=λe=>hn (by rw [e];exact List.mem_cons_self)
   rw [List.foldl_cons,ih _ u hu (λv hv=>h0 v<|List.mem_cons_of_mem _ hv) λh=>hn<|List.mem_cons_of_mem _ h]
   unfold e_
   rw [List.getD_eq_getElem?_getD,List.getD_eq_getElem?_getD,List.getElem?_set_ne (by omega)]
 have:∀(l:List (Int×Nat)) (xs:List Int),xs.length=n->(ordL l).Nodup->(∀v∈ordL l,0<=v/\v<(n:Int))->∀p∈l,e_ (l.foldl (λxs p=>xs.set p.1.toNat (p.2:Int)) xs) p.1=(p.2:Int):=λl=>by
  induction l with
  |nil=>intro xs _ _ _ p hp;cases hp
  |cons q l ih=>
   intro xs hl hn hr p hp
   obtain ⟨hq,aa⟩:=List.nodup_cons.1 (show (q.1::ordL l).Nodup from hn)
   have M:∀v∈ordL l,0<=v/\v<(n:Int):=λv hv=>hr v (List.mem_cons_of_mem _ hv)
   have Z:=hr q.1 List.mem_cons_self
   rw [List.foldl_cons]
   rcases List.mem_cons.1 hp with rfl|hp
   ·rw [hk l _ p.1 Z.1 (λv hv=>(M v hv).1) hq,at_set _ _ _ _ Z.1 Z.1<|by omega,if_pos rfl]
   exact ih _ (by rw [List.length_set];exact hl) aa M p hp
 exact λh1 h2=>this l _ List.length_replicate h1 h2
end
end Go.Sl
namespace Go.Sl
open Go.Proofs
set_option maxRecDepth 4000
variable{u:Int}{k:Nat}{W:BitVec 64}{l:List Int}
section
variable {nd:Int}{es:List Pt}
theorem coreL_at(Z:GrOk nd es)(h0:0<=u)(h1:u<nd):∃p∈coreR0 nd es,p.1=u/\e_ (coreN nd es) u=(p.2:Int):=by
 have hl:=Z.rows.len
 have hS:=rows_sym Z
 have M:=coreR_keys (rows:=ek nd es) (allB ((ek nd es).length:Int)) 0
 have hm:u∈ordL (coreR0 nd es):=(M.2 u).2 ((mem_allN hS.le).2 om)
 obtain ⟨p,hp,rfl⟩:=List.mem_map.1 hm
 refine ⟨p,hp,rfl,?_⟩
 unfold coreN
 rw [if_neg (by rw [checkG_ok.2 Z];decide)]
 exact numL_at M.1 (λv hv=>by have:=(mem_allN hS.le).1 ((M.2 v).1 hv);omega) p hp
theorem core_clos(Z:GrOk nd es)(hc:ClosB (ek nd es) k W)(hs:subN nd W)(hu:u∈eo W):(k:Int)<=e_ (coreN nd es) u:=by
 have hl:=Z.rows.len
 have hr:=Z.rng
 have hS:=rows_sym Z
 obtain ⟨p,hp,e,h⟩:=coreL_at Z (En hu).1 (hs u hu)
 have:=coreR_clos hc (allB ((ek nd es).length:Int)) 0 (λx M=>(mem_allN hS.le).2 ⟨(En M).1,by have:=hs x M;omega⟩) p hp (by rw [e];exact hu)
 omega
theorem core_some(Z:GrOk nd es)(hk:1<=k):∃W,ClosB (ek nd es) k W/\subN nd W/\∀u,0<=u->u<nd->(k:Int)<=e_ (coreN nd es) u->u∈eo W:=by
 have hl:=Z.rows.len
 have hr:=Z.rng
 have hS:=rows_sym Z
 obtain ⟨W,h1,h2,h3⟩:=coreR_core (rows:=ek nd es) (allB ((ek nd es).length:Int)) 0 k om
 refine ⟨W,h1,λx hx=>by have:=(mem_allN hS.le).1 (h2 x hx);omega,λu h0 M h5=>?_⟩
 obtain ⟨p,hp,e,h⟩:=coreL_at Z h0 M
 have:=(h3 p hp).1 om
 rwa [e] at this
theorem core_pos(Z:GrOk nd es)(M:0<=u)(h1:u<nd):0<=e_ (coreN nd es) u/\e_ (coreN nd es) u<nd:=by
 have hl:=Z.rows.len
 have hr:=Z.rng
 have hS:=rows_sym Z
 obtain ⟨p,hp,e,h⟩:=coreL_at Z M h1
 have:=coreF_bound (degB_all hS om) _ _ _ (Nat.zero_le _) p hp
 omega
theorem deg_meet(Z:GrOk nd es)(hW:∀x,x∈eo W↔x∈l)(M:0<=u)(h1:u<nd):degB (ek nd es) W u=(meetL (nbG nd es u) l).length:=by
 unfold degB
 have hr:=Z.rng
 refine ((List.perm_ext_iff_of_nodup (Dh _) ?_).2 λx=>?_).length_eq
 ·unfold meetL
  exact ((ofL_asc _).imp λh=>by omega:(ofL<|nbG nd es u).Nodup).filter _
 rw [mem_andB,mem_meetL,hW,Z.rows.mem M h1]
 unfold nbG
 rw [if_neg (by rw [checkG_ok.2 Z];decide),mem_ofL,mem_nbL]
 refine and_congr_left λ_=>⟨λh=>h.2,λh=>⟨?_,h⟩⟩
 rcases h with h|h
 ·have:=Z.edge _ h;simp only at this;omega
 have:=Z.edge _ h;simp only at this;omega
theorem mask_list{n:Int}(hn:n<=64)(h:∀x∈l,0<=x/\x<n)(x:Int):x∈eo (maskB l)↔x∈l:=by
 rw [Dv]
 constructor
 ·rintro ⟨h0,Z⟩
  have hlt:=BitVec.lt_of_getLsbD Z
  rw [bit_maskB hlt,Int.toNat_of_nonneg h0] at Z
  exact Z
 intro M
 have:=h x M
 refine ⟨this.1,(bit_maskB om).2 ?_⟩
 rw [Int.toNat_of_nonneg this.1];exact M
end
end Go.Sl
namespace Go.Sl
def ind(p:Bool):Int:=if p=true then 1 else 0
def prs(k:Int):Int:=k*(k - 1) / 2
theorem ind_01(p:Bool):ind p=0\/ind p=1:=by unfold ind;split<;>simp
theorem ind_f:ind false=0:=rfl
theorem ind_t:ind true=1:=rfl
theorem pairs_two(p:Nat->Bool):∀n:Nat,2*sumN n (λy=>sumN n (λx=>ind (decide (x<y)&&p x&&p y)))=sumN n (λx=>ind (p x))*sumN n (λx=>ind (p x)) - sumN n (λx=>ind (p x))
 |0=>rfl
 |n+1=>by
  have Z:=pairs_two p n
  have h1:∀y,y<n->sumN (n+1) (λx=>ind<|decide (x<y)&&p x&&p y)=sumN n (λx=>ind<|decide (x<y)&&p x&&p y):=λy hy=>by
   show sumN n _+ind _=_
   rw [decide_eq_false (show ¬n<y by omega)]
   simp [ind]
  have M:sumN (n+1) (λx=>ind<|decide (x<n)&&p x&&p n)=if p n=true then sumN n (λx=>ind<|p x) else 0:=by
   show sumN n _+ind _=_
   rw [decide_eq_false (show ¬n<n by omega)]
   cases hn:p n with
   |true=>
    rw [if_pos rfl]
    simp only [Bool.false_and,Bool.and_true,ind_f,Int.add_zero]
    exact sumN_congr n λx hx=>by rw [decide_eq_true hx,Bool.true_and]
   |false=>
    simp only [Bool.and_false,ind_f,Int.add_zero]
    rw [if_neg (by decide)]
    exact sumN_zero n
  have h3:sumN (n+1) (λy=>sumN (n+1)<|λx=>ind<|decide (x<y)&&p x&&p y)=sumN n (λy=>sumN n<|λx=>ind<|decide (x<y)&&p x&&p y)+if p n=true then sumN n (λx=>ind<|p x) else 0:=by
   show sumN n _+sumN (n+1) _=_
   rw [sumN_congr n h1,M]
  rw [h3]
  show 2*(_+_)=(sumN n _+ind (p n))*(sumN n _+ind (p n)) - (sumN n _+ind (p n))
  cases hn:p n with
  |true=>
   rw [if_pos rfl,ind_t,Int.mul_add,Z,Int.mul_add,Int.add_mul,Int.mul_one,Int.one_mul]
   omega
  |false=>
   rw [if_neg (by decide),ind_f,Int.add_zero,Int.add_zero]
   exact Z
theorem prs_pairs(p:Nat->Bool)(n:Nat):prs (sumN n (λx=>ind (p x)))=sumN n (λy=>sumN n (λx=>ind (decide (x<y)&&p x&&p y))):=by
 have:=pairs_two p n
 unfold prs
 rw [Int.mul_sub,Int.mul_one]
 omega
structure AdjN (n:Nat) (e:Nat->Nat->Bool):Prop where
 sym:∀x y,e x y=e y x
 irr:∀x,e x x=false
section
variable {n:Nat}{e:Nat->Nat->Bool}
def coN(n:Nat)(e:Nat->Nat->Bool)(v w:Nat):Int:=if v=w then 0 else sumN n λx=>ind (e v x&&e w x)
def quadN(n:Nat)(e:Nat->Nat->Bool)(v:Nat):Int:=sumN n λw=>prs (coN n e v w)
def cyc(e:Nat->Nat->Bool)(a b d c:Nat):Bool:=decide (b<d)&&decide (a<b)&&decide (a<c)&&(e a b&&e a d&&(e b c&&e d c))
theorem ind_d(p:Prop)[Decidable p]:ind (decide p)=if p then 1 else 0:=by unfold ind;by_cases h:p<;>simp [h]
theorem sum3(f:Nat->Nat->Nat->Int)(g:Nat->Nat->Nat->Int)(h:∀x y z,f x y z=g x y z):sumN n (λx=>sumN n λy=>sumN n λz=>f x y z)=sumN n (λx=>sumN n λy=>sumN n λz=>g x y z):=
 sumN_congr n λx _=>sumN_congr n λy _=>sumN_congr n λz _=>h x y z
theorem quad_point(h:AdjN n e)(v w x y:Nat):ind (decide (v≠w)&&(decide (x<y)&&(e v x&&e w x)&&(e v y&&e w y)))=ind (cyc e v x y w)+ind (cyc e w x y v)+ind (cyc e x v w y)+ind (cyc e x w v y):=by
 unfold cyc
 rw [h.sym x v,h.sym x w,h.sym y v,h.sym y w]
 cases e1:e v x with
 |false=>simp [ind]
 |true=>
  cases e2:e w x with
  |false=>simp [ind]
  |true=>
   cases e3:e v y with
   |false=>simp [ind]
   |true=>
    cases e4:e w y with
    |false=>simp [ind]
    |true=>
     have n1:v≠x:=λq=>by rw [q,h.irr] at e1;cases e1
     have n2:w≠x:=λq=>by rw [q,h.irr] at e2;cases e2
     have n3:v≠y:=λq=>by rw [q,h.irr] at e3;cases e3
     have n4:w≠y:=λq=>by rw [q,h.irr] at e4;cases e4
     simp only [Bool.and_true,←Bool.decide_and,ind_d]
     repeat' split
     all_goals omega
theorem quad_cyc(h:AdjN n e)(v:Nat):quadN n e v =
  sumN n (λb=>sumN n λd=>sumN n λc=>ind<|cyc e v b d c)+sumN n (λa=>sumN n λd=>sumN n λc=>ind<|cyc e a v d c) +
  sumN n (λa=>sumN n λb=>sumN n λc=>ind<|cyc e a b v c)+sumN n (λa=>sumN n λb=>sumN n λd=>ind<|cyc e a b d v):=by
 have h1:quadN n e v=sumN n λw=>sumN n λy=>sumN n λx=>ind (decide (v≠w)&&(decide (x<y)&&(e v x&&e w x)&&(e v y&&e w y))):=by
  unfold quadN
  refine sumN_congr n λw _=>?_
  unfold coN
  by_cases hw:v=w
  ·rw [if_pos hw]
   symm
   show _=prs 0
   refine (sumN_congr n λy _=>sumN_congr n λx _=>?_).trans ((sumN_congr n λ_ _=>sumN_zero n).trans (sumN_zero n))
   rw [decide_eq_false (λhh=>hh hw),Bool.false_and];rfl
  rw [if_neg hw,prs_pairs]
  refine sumN_congr n λy _=>sumN_congr n λx _=>?_
  rw [decide_eq_true hw,Bool.true_and]
 rw [h1,sum3 _ _ λw y x=>quad_point h v w x y]
 have h2:∀(A B C D:Nat->Nat->Nat->Int),sumN n (λw=>sumN n λy=>sumN n λx=>A w y x+B w y x+C w y x+D w y x) =
   sumN n (λw=>sumN n λy=>sumN n λx=>A w y x)+sumN n (λw=>sumN n λy=>sumN n λx=>B w y x)+sumN n (λw=>sumN n λy=>sumN n λx=>C w y x)+sumN n (λw=>sumN n λy=>sumN n λx=>D w y x):=λA B C D=>by
  simp only [sumN_add]
 rw [h2]
 -- w y x to b d c with b = x, d = y, c = w
 have r1:sumN n (λw=>sumN n λy=>sumN n λx=>ind<|cyc e v x y w)=sumN n (λb=>sumN n λd=>sumN n λc=>ind<|cyc e v b d c):=by
  rw [sumN_congr n λw _=>sumN_swap n n λy x=>ind<|cyc e v x y w,sumN_swap n n λw x=>sumN n λy=>ind<|cyc e v x y w]
  exact sumN_congr n λx _=>sumN_swap n n λw y=>ind<|cyc e v x y w
 have r2:sumN n (λw=>sumN n λy=>sumN n λx=>ind<|cyc e w x y v)=sumN n (λa=>sumN n λb=>sumN n λd=>ind<|cyc e a b d v):=
  sumN_congr n λw _=>sumN_swap n n λy x=>ind (cyc e w x y v)
 have r3:sumN n (λw=>sumN n λy=>sumN n λx=>ind<|cyc e x v w y)=sumN n (λa=>sumN n λd=>sumN n λc=>ind<|cyc e a v d c):=by
  rw [sumN_congr n λw _=>sumN_swap n n λy x=>ind<|cyc e x v w y]
  exact sumN_swap n n λw x=>sumN n λy=>ind<|cyc e x v w y
 have r4:sumN n (λw=>sumN n λy=>sumN n λx=>ind<|cyc e x w v y)=sumN n (λa=>sumN n λb=>sumN n λc=>ind<|cyc e a b v c):=by
  rw [sumN_congr n λw _=>sumN_swap n n λy x=>ind<|cyc e x w v y]
  exact sumN_swap n n λw x=>sumN n λy=>ind<|cyc e x w v y
 rw [r1,r2,r3,r4]
 omega
def quadS(n:Nat)(e:Nat->Nat->Bool):Int:=sumN n λa=>sumN n λb=>sumN n λd=>sumN n λc=>ind (cyc e a b d c)
theorem quad_four(h:AdjN n e):sumN n (quadN n e)=4*quadS n e:=by
 rw [sumN_congr n λv _=>quad_cyc h v]
 simp only [sumN_add]
 have M:sumN n (λv=>sumN n λa=>sumN n λd=>sumN n λc=>ind<|cyc e a v d c)=quadS n e:=sumN_swap n n λv a=>sumN n λd=>sumN n λc=>ind (cyc e a v d c)
 have r3:sumN n (λv=>sumN n λa=>sumN n λb=>sumN n λc=>ind<|cyc e a b v c)=quadS n e:=by
  rw [sumN_swap n n λv a=>sumN n λb=>sumN n λc=>ind<|cyc e a b v c]
  exact sumN_congr n λa _=>sumN_swap n n λv b=>sumN n λc=>ind<|cyc e a b v c
 have Z:sumN n (λv=>sumN n λa=>sumN n λb=>sumN n λd=>ind<|cyc e a b d v)=quadS n e:=by
  rw [sumN_swap n n λv a=>sumN n λb=>sumN n λd=>ind<|cyc e a b d v]
  refine sumN_congr n λa _=>?_
  rw [sumN_swap n n λv b=>sumN n λd=>ind<|cyc e a b d v]
  exact sumN_congr n λb _=>sumN_swap n n λv d=>ind<|cyc e a b d v
 rw [M,r3,Z]
 show quadS n e+_+_+_=_
 omega
end
end Go.Sl
