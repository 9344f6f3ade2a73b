/- A part of the proofs of statements of this seat: contracts of functions, and the plain laws that they lean on. No conditions. -/
import Derived.Test.YtnbkccjkdpolmaaGreatDoorA16
import Derived.OrdersIn
set_option linter.unusedVariables false
set_option linter.unusedSimpArgs false
set_option linter.unusedSectionVars false
open Go.Proofs.Tryz (prog)
open List (replicate)
set_option maxHeartbeats 2000000
namespace Go.Sl
open Go.Proofs
set_option maxRecDepth 4000
variable{sup:List Int}{gone:List Bool}{i:Nat}{κ:Ctx}{I:List Item}{nd:Int}{va:Value}{es:List Pt}
attribute [local irreducible] W G V D A Runs Eff
theorem best_yes(h:e_ gone i=false)(M:bestT sup gone i<0\/e_ sup i<e_ sup (bestT sup gone i)):bestT sup gone (i+1)=(i:Int):=by
 conv=>lhs;unfold bestT
 rw [if_pos ⟨h,M⟩]
theorem best_no(h:e_ gone i=true\/(¬bestT sup gone i<0/\¬e_ sup i<e_ sup (bestT sup gone i))):bestT sup gone (i+1)=bestT sup gone i:=by
 conv=>lhs;unfold bestT
 rw [if_neg]
 rintro ⟨M,h2⟩
 rcases h with h|h
 ·rw [h] at M;cases M
 exact h2.elim h.1 h.2
theorem rows_atG{rs:List (RowG Pt)}{tri:List (List Pt)}(h:rs.map RowG.xs=tri){i:Int}(h0:0<=i)(M:i<rs.length):(e_ rs i).xs=e_ tri i:=by
 subst h
 rw [at_eq h0 M,at_eq h0<|by rw [List.length_map];exact M,List.getElem_map]
theorem low_yes{p:Pt}(h1:e_ gone p.u=false)(M:e_ gone p.v=false):lowT gone sup p=(sup.set p.u.toNat (e_ sup p.u - 1)).set p.v.toNat (e_ (sup.set p.u.toNat (e_ sup p.u - 1)) p.v - 1):=by
 unfold lowT;rw [if_pos ⟨h1,M⟩]
theorem low_no{p:Pt}(h:e_ gone p.u=true\/e_ gone p.v=true):lowT gone sup p=sup:=by
 unfold lowT;rw [if_neg]
 rintro ⟨h1,M⟩
 rcases h with h|h
 ·rw [h] at h1;cases h1
 rw [h] at M;cases M
theorem TPeel_ok(hl:Sl κ I va es)(hG:GrOk nd es)(hb:es.length<=1000000)(hT:TabRd κ I 0 tzCells):eu prog κ 190 [.agg #[e7 nd,va]] I (λr J=>∃a c a' c',r = .tuple #[.slice a (trussO (trisE nd es)).length c,.slice a' (trussN (trisE nd es)).length c']/\J=vc 3 (.slice a (trussO (trisE nd es)).length c) (trussO (trisE nd es))::vc 3 (.slice a' (trussN (trisE nd es)).length c') (trussN (trisE nd es))::I):=by
 have bw:=hG.rng
 have az:=tris_ok hG
 have bx:(trisE nd es).length=es.length:=List.length_map ..
 refine Ce1 Tryz.func190 C C ?_
 refine Ar<|Ge1 (Al (cs:=[_,_]) C C C) λb1=>Z ?_
 refine G.e (Ac c_ C C<|Triangles_ok (nd:=nd) (Au hl) hG om<|A8 hT Ah) ?_
 rintro _ _ ⟨_,_,⟨an,aq,M,rfl,ay,rfl⟩,rfl,rfl⟩
 have a9:M.length=(trisE nd es).length:=by rw [←ay,List.length_map]
 refine G.fit (J:=vc 205 (.slice an M.length aq) (M)::e8 b1 [e7 nd,va] 56::(rgI M++I)) (Et<|List.Perm.cons _<|Fh (A:=rgI M) (L:=[e8 b1 [e7 nd,va] 56]) (T:=I))<|Z ?_
 refine Ge2 (Cj (α:=Int) (n:=M.length) Aa ef C C C om om dc C) λaw au=>Z ?_
 refine Cn (σ:=Nat×(List Int)) (λs=>([(2,.slice none 0 0),(4,.slice an M.length aq),(5,e7 ((M.length:Nat):Int)),(6,.slice aw (replicate M.length (default:Int)).length au),(21,.slice an M.length aq),(22,e7 ((M.length:Nat):Int)),(23,e7 ((s.1:Nat):Int))]:Env)) (λs=>vc 3 (.slice aw (replicate M.length (default:Int)).length au) (s.2)::vc 205 (.slice an M.length aq) (M)::e8 b1 [e7 nd,va] 56::(rgI M++I)) (λs=>(s.1<=M.length)/\(s.2.length=M.length)/\(∀i:Nat,i<s.1->e_ s.2 i=(((e_ M i).xs.length:Nat):Int))) (λs=>M.length - s.1) (0,replicate M.length (default:Int)) ⟨om,List.length_replicate,(λi h=>by omega)⟩ (Ab C<|Ab C<|Ab C<|Ab C<|Ab C<|Ab C<|Ab (Dk C<|by first|omega|rfl|((try dsimp only);first|exact best_yes (by simpa using ab) (by first|exact .inl aa|exact .inr ad)|exact (best_yes (by simpa using ab)<|by first|exact .inl aa|exact .inr ad).symm|exact best_no (by first|(left;simpa using ab)|exact .inr ⟨aa,ad⟩)|exact (best_no<|by first|(left;simpa using ab)|exact .inr ⟨aa,ad⟩).symm)) Bs) Aj ?_
 rintro ⟨k,sup⟩ hp
 dsimp only at hp ⊢
 obtain ⟨hk,bg,bb⟩:=hp
 refine Z ?_
 refine Ap C (λbr=>Z ?_)<|λbr=>Z ?_
 ·refine Ge0 (Ci (α:=Int) (xs:=sup) (e:=3) (new:=(((e_ M k).xs.length:Nat):Int)) ef C C C om oo am) (Z ?_)
  exact B5 ((k+1),(List.set sup ((k:Int)).toNat ((((e_ M k).xs.length:Nat):Int)))) (by dsimp only;exact ⟨om,(by rw [List.length_set];exact bg),(λi h=>by rw [C2 _ _ _ _ om om om];by_cases e:i=k;(· subst e;rw [if_pos rfl]);(· rw [if_neg om];exact bb i om))⟩) (hL:=(Ab C<|Ab C<|Ab C<|Ab C<|Ab C<|Ab C<|Ab (Dk C<|by first|omega|rfl|((try dsimp only);first|exact best_yes (by simpa using ab) (by first|exact .inl aa|exact .inr ad)|exact (best_yes (by simpa using ab)<|by first|exact .inl aa|exact .inr ad).symm|exact best_no (by first|(left;simpa using ab)|exact .inr ⟨aa,ad⟩)|exact (best_no<|by first|(left;simpa using ab)|exact .inr ⟨aa,ad⟩).symm)) Bs))
 have bi:sup=(startT<|trisE nd es).sup:=by refine ext_at (by rw [bg,a9];exact (List.length_map ..).symm) (λi hi=>?_);rw [bb i om,rows_atG ay om om];show _=e_ ((trisE nd es).map λl=>(l.length:Int)) (i:Int);rw [Cx _ _ (show i<(trisE nd es).length by omega),Cx _ _<|by rw [List.length_map];omega,List.getElem_map]
 refine Ge2 (Cj (α:=Bool) (n:=M.length) Cq ty4 C C C om om dc C) λa1 a3=>Z ?_
 refine Ge2 (Cj (α:=Int) (n:=M.length) Aa ef C C C om om dc C) λav ak=>Z ?_
 refine Cn (σ:=Nat×TrS×(Option Addr)×Nat) (λs=>([(2,.slice s.2.2.1 s.2.1.ord.length s.2.2.2),(3,.slice av (replicate M.length (default:Int)).length ak),(4,.slice an M.length aq),(5,e7 ((M.length:Nat):Int)),(6,.slice aw (replicate M.length (default:Int)).length au),(9,.slice a1 (replicate M.length (default:Bool)).length a3),(10,e7<|s.2.1.k),(38,e7 ((M.length:Nat):Int)),(39,e7 ((s.1:Nat):Int))]:Env)) (λs=>vc 3 (.slice s.2.2.1 s.2.1.ord.length s.2.2.2) (s.2.1.ord)::vc 3 (.slice av (replicate M.length (default:Int)).length ak) (s.2.1.num)::vc 4 (.slice a1 (replicate M.length (default:Bool)).length a3) (s.2.1.gone)::vc 3 (.slice aw (replicate M.length (default:Int)).length au) (s.2.1.sup)::vc 205 (.slice an M.length aq) (M)::e8 b1 [e7 nd,va] 56::(rgI M++I)) (λs=>(s.1<=M.length)/\(s.2.1=runTr (trisE nd es) s.1)/\(TrOk (nd.toNat - 1) (trisE nd es).length s.1 s.2.1)) (λs=>M.length - s.1) (0,(startT<|trisE nd es),none,0) ⟨om,rfl,(TrOk.start az)⟩ (Ab (El C<|by first|rfl|simp)<|Ab C<|Ab C<|Ab C<|Ab C<|Ab C<|Ab (Dk C<|by first|omega|rfl|((try dsimp only);first|exact best_yes (by simpa using ab) (by first|exact .inl aa|exact .inr ad)|exact (best_yes (by simpa using ab)<|by first|exact .inl aa|exact .inr ad).symm|exact best_no (by first|(left;simpa using ab)|exact .inr ⟨aa,ad⟩)|exact (best_no<|by first|(left;simpa using ab)|exact .inr ⟨aa,ad⟩).symm))<|Ab C<|Ab (Dk C<|by first|omega|rfl|((try dsimp only);first|exact best_yes (by simpa using ab) (by first|exact .inl aa|exact .inr ad)|exact (best_yes (by simpa using ab)<|by first|exact .inl aa|exact .inr ad).symm|exact best_no (by first|(left;simpa using ab)|exact .inr ⟨aa,ad⟩)|exact (best_no<|by first|(left;simpa using ab)|exact .inr ⟨aa,ad⟩).symm)) Bs) (by rw [←bi];exact Ak (Bw (α:=Int) _ _)<|by rw [a9];exact Bb) ?_
 rintro ⟨j,tr,ao,co⟩ hp
 dsimp only at hp ⊢
 obtain ⟨hj,bc,ap⟩:=hp
 have bo:=ap.slen
 have bt:=ap.glen
 have b3:=ap.nlen
 have b2:=ap.olen
 have ca:=ap.k
 have b6:2*(((nd.toNat - 1:Nat)):Int)*(j:Int)<=126*(j:Int):=Int.mul_le_mul_of_nonneg_right om om
 refine Z ?_
 refine Ap C (λbp=>Z ?_)<|λbp=>Z ?_
 ·refine Cn (σ:=Nat) (λs=>([(2,.slice ao tr.ord.length co),(3,.slice av (replicate M.length (default:Int)).length ak),(4,.slice an M.length aq),(5,e7 ((M.length:Nat):Int)),(6,.slice aw (replicate M.length (default:Int)).length au),(9,.slice a1 (replicate M.length (default:Bool)).length a3),(10,e7<|tr.k),(11,e7<|bestT tr.sup tr.gone s),(38,e7 ((M.length:Nat):Int)),(39,e7<|(j:Int)),(41,e7 ((M.length:Nat):Int)),(42,e7 ((s:Nat):Int))]:Env)) (λs=>vc 3 (.slice ao tr.ord.length co) (tr.ord)::vc 3 (.slice av (replicate M.length (default:Int)).length ak) (tr.num)::vc 4 (.slice a1 (replicate M.length (default:Bool)).length a3) (tr.gone)::vc 3 (.slice aw (replicate M.length (default:Int)).length au) (tr.sup)::vc 205 (.slice an M.length aq) (M)::e8 b1 [e7 nd,va] 56::(rgI M++I)) (λs=>(s<=M.length)) (λs=>M.length - s) 0 (show ((0:Nat)<=M.length) from om) (Ab C<|Ab C<|Ab C<|Ab C<|Ab C<|Ab C<|Ab C<|Ab (Dk C<|by first|omega|rfl|((try dsimp only);first|exact best_yes (by simpa using ab) (by first|exact .inl aa|exact .inr ad)|exact (best_yes (by simpa using ab)<|by first|exact .inl aa|exact .inr ad).symm|exact best_no (by first|(left;simpa using ab)|exact .inr ⟨aa,ad⟩)|exact (best_no<|by first|(left;simpa using ab)|exact .inr ⟨aa,ad⟩).symm))<|Ab C<|Ab C<|Ab C<|Ab (Dk C<|by first|omega|rfl|((try dsimp only);first|exact best_yes (by simpa using ab) (by first|exact .inl aa|exact .inr ad)|exact (best_yes (by simpa using ab)<|by first|exact .inl aa|exact .inr ad).symm|exact best_no (by first|(left;simpa using ab)|exact .inr ⟨aa,ad⟩)|exact (best_no<|by first|(left;simpa using ab)|exact .inr ⟨aa,ad⟩).symm)) Bs) Aj ?_
  rintro i2 hp
  have b8:=hp
  have b9:=bestT_lt tr.sup tr.gone i2
  refine Z ?_
  refine Ap C (λbq=>Z ?_)<|λbq=>Z ?_
  ·refine A4 mixed (Cr 20<|Z ?_)
   refine D.splitb (d:=50) C (λab=>?_)<|λab=>?_
   ·refine Z ?_
    refine Du (d:=53) C (λaa=>Z ?_)<|λaa=>?_
    ·exact B5 ((i2+1)) om (hL:=(Ab C<|Ab C<|Ab C<|Ab C<|Ab C<|Ab C<|Ab C<|Ab (Dk C<|by first|omega|rfl|((try dsimp only);first|exact best_yes (by simpa using ab) (by first|exact .inl aa|exact .inr ad)|exact (best_yes (by simpa using ab)<|by first|exact .inl aa|exact .inr ad).symm|exact best_no (by first|(left;simpa using ab)|exact .inr ⟨aa,ad⟩)|exact (best_no<|by first|(left;simpa using ab)|exact .inr ⟨aa,ad⟩).symm))<|Ab C<|Ab C<|Ab C<|Ab (Dk C<|by first|omega|rfl|((try dsimp only);first|exact best_yes (by simpa using ab) (by first|exact .inl aa|exact .inr ad)|exact (best_yes (by simpa using ab)<|by first|exact .inl aa|exact .inr ad).symm|exact best_no (by first|(left;simpa using ab)|exact .inr ⟨aa,ad⟩)|exact (best_no<|by first|(left;simpa using ab)|exact .inr ⟨aa,ad⟩).symm)) Bs))
    refine Dro 9 C (Af C)<|Z ?_
    refine Ap C (λad=>Z ?_)<|λad=>Z ?_
    ·exact B5 ((i2+1)) om (hL:=(Ab C<|Ab C<|Ab C<|Ab C<|Ab C<|Ab C<|Ab C<|Ab (Dk C<|by first|omega|rfl|((try dsimp only);first|exact best_yes (by simpa using ab) (by first|exact .inl aa|exact .inr ad)|exact (best_yes (by simpa using ab)<|by first|exact .inl aa|exact .inr ad).symm|exact best_no (by first|(left;simpa using ab)|exact .inr ⟨aa,ad⟩)|exact (best_no<|by first|(left;simpa using ab)|exact .inr ⟨aa,ad⟩).symm))<|Ab C<|Ab C<|Ab C<|Ab (Dk C<|by first|omega|rfl|((try dsimp only);first|exact best_yes (by simpa using ab) (by first|exact .inl aa|exact .inr ad)|exact (best_yes (by simpa using ab)<|by first|exact .inl aa|exact .inr ad).symm|exact best_no (by first|(left;simpa using ab)|exact .inr ⟨aa,ad⟩)|exact (best_no<|by first|(left;simpa using ab)|exact .inr ⟨aa,ad⟩).symm)) Bs))
    exact B5 ((i2+1)) om (hL:=(Ab C<|Ab C<|Ab C<|Ab C<|Ab C<|Ab C<|Ab C<|Ab (Dk C<|by first|omega|rfl|((try dsimp only);first|exact best_yes (by simpa using ab) (by first|exact .inl aa|exact .inr ad)|exact (best_yes (by simpa using ab)<|by first|exact .inl aa|exact .inr ad).symm|exact best_no (by first|(left;simpa using ab)|exact .inr ⟨aa,ad⟩)|exact (best_no<|by first|(left;simpa using ab)|exact .inr ⟨aa,ad⟩).symm))<|Ab C<|Ab C<|Ab C<|Ab (Dk C<|by first|omega|rfl|((try dsimp only);first|exact best_yes (by simpa using ab) (by first|exact .inl aa|exact .inr ad)|exact (best_yes (by simpa using ab)<|by first|exact .inl aa|exact .inr ad).symm|exact best_no (by first|(left;simpa using ab)|exact .inr ⟨aa,ad⟩)|exact (best_no<|by first|(left;simpa using ab)|exact .inr ⟨aa,ad⟩).symm)) Bs))
   refine Dpo 6 C<|Z ?_
   exact B5 ((i2+1)) om (hL:=(Ab C<|Ab C<|Ab C<|Ab C<|Ab C<|Ab C<|Ab C<|Ab (Dk C<|by first|omega|rfl|((try dsimp only);first|exact best_yes (by simpa using ab) (by first|exact .inl aa|exact .inr ad)|exact (best_yes (by simpa using ab)<|by first|exact .inl aa|exact .inr ad).symm|exact best_no (by first|(left;simpa using ab)|exact .inr ⟨aa,ad⟩)|exact (best_no<|by first|(left;simpa using ab)|exact .inr ⟨aa,ad⟩).symm))<|Ab C<|Ab C<|Ab C<|Ab (Dk C<|by first|omega|rfl|((try dsimp only);first|exact best_yes (by simpa using ab) (by first|exact .inl aa|exact .inr ad)|exact (best_yes (by simpa using ab)<|by first|exact .inl aa|exact .inr ad).symm|exact best_no (by first|(left;simpa using ab)|exact .inr ⟨aa,ad⟩)|exact (best_no<|by first|(left;simpa using ab)|exact .inr ⟨aa,ad⟩).symm)) Bs))
  obtain ⟨b,bh⟩:∃b,bestT tr.sup tr.gone i2=b:=⟨_,rfl⟩
  have bj:bestT tr.sup tr.gone (trisE nd es).length=b:=by rw [←bh,show i2=(trisE nd es).length by omega]
  have a0:=ap.best om
  rw [bj] at a0
  rw [bh]
  have cc:=ap.sup _ (Bx (xs:=tr.sup) (i:=b) a0.1 om)
  refine Z ?_
  have bn:(if tr.k<(e_ tr.sup b) then (e_ tr.sup b) else tr.k)=(max tr.k<|e_ tr.sup b):=by split<;>omega
  rw [bn]
  refine Z ?_
  refine Ge0 (Ci (α:=Int) (xs:=tr.num) (e:=3) (new:=(max tr.k<|e_ tr.sup b)) ef C C C om oo am)<|Z ?_
  refine Ge0 (Ci (α:=Bool) (xs:=tr.gone) (e:=4) (new:=true) ty4 C C C om oo am)<|Z ?_
  refine Ge1 (B9 (α:=Int) (cs:=[_]) (xs:=[b]) Aa ef C C dc dc C C C C) λbf=>?_
  refine Ge2 (B4 (α:=Int) (e:=3) (xs:=tr.ord) (ys:=([b]:List Int)) Aa ef C C C mm A7 lcn dc C<|λ_ _=>am) λa4 a6=>Z ?_
  refine Cn (σ:=Nat×(List Int)) (λs=>([(2,.slice a4 (tr.ord++([b]:List Int)).length a6),(3,.slice av (replicate M.length (default:Int)).length ak),(4,.slice an M.length aq),(5,e7 ((M.length:Nat):Int)),(6,.slice aw (replicate M.length (default:Int)).length au),(9,.slice a1 (replicate M.length (default:Bool)).length a3),(10,e7<|(max tr.k<|e_ tr.sup b)),(38,e7 ((M.length:Nat):Int)),(39,e7 ((j:Nat):Int)),(87,.slice (e_ M b).a (e_ M b).xs.length (e_ M b).c),(88,e7<|(((e_ M b).xs.length:Nat):Int)),(89,e7 ((s.1:Nat):Int))]:Env)) (λs=>vc 3 (.slice bf 1 1) (([b]:List Int))::vc 3 (.slice a4 (tr.ord++([b]:List Int)).length a6) (tr.ord++([b]:List Int))::vc 3 (.slice av (replicate M.length (default:Int)).length ak) (List.set tr.num (b).toNat ((max tr.k<|e_ tr.sup b)))::vc 4 (.slice a1 (replicate M.length (default:Bool)).length a3) (List.set tr.gone (b).toNat (true))::vc 3 (.slice aw (replicate M.length (default:Int)).length au) (s.2)::vc 205 (.slice an M.length aq) (M)::e8 b1 [e7 nd,va] 56::(rgI M++I)) (λs=>(s.1<=(e_ M b).xs.length)/\(s.2=((e_ M b).xs.take s.1).foldl (lowT<|List.set tr.gone (b).toNat (true)) tr.sup)/\(s.2.length=(trisE nd es).length)/\(∀x∈s.2, -(126*((j:Nat):Int)) - 2*((s.1:Nat):Int)<=x/\x<=64)) (λs=>(e_ M b).xs.length - s.1) (0,tr.sup) ⟨om,rfl,bo,(λx hx=>by have:=ap.sup x hx;omega)⟩ (Ab C<|Ab C<|Ab C<|Ab C<|Ab C<|Ab C<|Ab C<|Ab C<|Ab C<|Ab C<|Ab C<|Ab (Dk C<|by first|omega|rfl|((try dsimp only);first|exact best_yes (by simpa using ab) (by first|exact .inl aa|exact .inr ad)|exact (best_yes (by simpa using ab)<|by first|exact .inl aa|exact .inr ad).symm|exact best_no (by first|(left;simpa using ab)|exact .inr ⟨aa,ad⟩)|exact (best_no<|by first|(left;simpa using ab)|exact .inr ⟨aa,ad⟩).symm)) Bs) Aj ?_
  rintro ⟨q,ae⟩ hp
  dsimp only at hp ⊢
  obtain ⟨hq,a7,ar,a5⟩:=hp
  have be:(e_ M b).xs∈(trisE nd es):=by rw [rows_atG ay a0.1 om];exact Bx a0.1 a0.2.1
  have cb:=az.len _ be
  have bz:(List.set tr.gone (b).toNat (true)).length=(trisE nd es).length:=by rw [List.length_set];exact bt
  have a8:q<(e_ M b).xs.length->0<=(e_ (e_ M b).xs (q:Int)).u/\(e_ (e_ M b).xs (q:Int)).u<(trisE nd es).length/\0<=(e_ (e_ M b).xs (q:Int)).v/\(e_ (e_ M b).xs (q:Int)).v<(trisE nd es).length:=λh=>az.rng _ be _ (Bx om om)
  refine Z ?_
  refine Ap C (λbu=>Z ?_)<|λbu=>Z ?_
  ·refine Gr (Az (α:=Pt) (xs:=(e_ M b).xs) C6 ty207 C C (Em<|by repeat (first|exact rgI_mem (rs:=M) (i:=b) om om|apply List.mem_cons_of_mem)) om oo) (Gr (Dt (α:=Pt) (xs:=(e_ M b).xs) ty207 C (Em<|by repeat (first|exact rgI_mem (rs:=M) (i:=b) om om|apply List.mem_cons_of_mem)) om oo) ?_)
   have b4:=a8 om
   have cd:=a5 _ (Bx (xs:=ae) (i:=(e_ (e_ M b).xs (q:Int)).u) om om)
   refine Ge1 (Am ty207 C) λb5=>Ge0 (Cf ty207)<|Z ?_
   refine Gr (Cb Bz ty2 C C om om)<|Z ?_
   refine Ce (d:=99) C (λaj=>?_)<|λaj=>Z ?_
   ·refine e9 (Af C) (e9 (Cb Bz ty2 C C om om)<|Z ?_)
    refine D8 C (λah=>?_)<|λah=>Z ?_
    ·refine Ar (Gm C<|Gr (Cb Bz ty2 C C om om)<|Z ?_)
     refine Ge0 (Ci (α:=Int) (xs:=ae) (e:=3) (new:=(e_ ae<|(e_ ((e_ M b).xs) (q:Int)).u) - 1) ef C C C om oo am) ?_
     have b7 : -(126*(j:Int)) - 2*(q:Int) - 1<=e_ (List.set ae ((e_ ((e_ M b).xs) (q:Int)).u).toNat ((e_ ae<|(e_ ((e_ M b).xs) (q:Int)).u) - 1)) (e_ (e_ M b).xs (q:Int)).v/\e_ (List.set ae ((e_ ((e_ M b).xs) (q:Int)).u).toNat ((e_ ae<|(e_ ((e_ M b).xs) (q:Int)).u) - 1)) (e_ (e_ M b).xs (q:Int)).v<=64:=by rw [C2 _ _ _ _ om om om];have:=a5 _ (Bx (xs:=ae) (i:=(e_ (e_ M b).xs (q:Int)).v) om om);split<;>omega
     refine Z ?_
     refine Gr (Cb Bz ty2 C C om om)<|Z ?_
     refine Ge0 (Ci (α:=Int) (xs:=List.set ae ((e_ ((e_ M b).xs) (q:Int)).u).toNat ((e_ ae<|(e_ ((e_ M b).xs) (q:Int)).u) - 1)) (e:=3) (new:=(e_ (List.set ae ((e_ ((e_ M b).xs) (q:Int)).u).toNat ((e_ ae<|(e_ ((e_ M b).xs) (q:Int)).u) - 1))<|(e_ ((e_ M b).xs) (q:Int)).v) - 1) ef C C C om oo am)<|Z ?_
     have ax:((e_ M b).xs.take (q+1)).foldl (lowT<|List.set tr.gone (b).toNat (true)) tr.sup=lowT (List.set tr.gone (b).toNat (true)) ae (e_ (e_ M b).xs (q:Int)):=by rw [Ct _ q om,List.foldl_append,←a7];rfl
     have ai:=lowT_rng (gone:=(List.set tr.gone (b).toNat (true))) (p:=(e_ (e_ M b).xs (q:Int))) (by have:=a8 om;omega) a5
     have bk:=lowT_len (List.set tr.gone (b).toNat (true)) ae (e_ (e_ M b).xs (q:Int))
     exact B5 ((q+1),(List.set (List.set ae ((e_ ((e_ M b).xs) (q:Int)).u).toNat ((e_ ae<|(e_ ((e_ M b).xs) (q:Int)).u) - 1)) ((e_ ((e_ M b).xs) (q:Int)).v).toNat ((e_ (List.set ae ((e_ ((e_ M b).xs) (q:Int)).u).toNat ((e_ ae<|(e_ ((e_ M b).xs) (q:Int)).u) - 1))<|(e_ ((e_ M b).xs) (q:Int)).v) - 1))) (by dsimp only;exact ⟨om,(by rw [ax];first|exact (low_yes (by simpa using aj)<|by simpa using ah).symm|exact (low_no<|by first|(left;simpa using aj)|(right;simpa using ah)).symm),(by first|exact ar|(simp only [List.length_set];exact ar)),(by first|(rw [low_yes (by simpa using aj) (by simpa using ah)] at ai;exact λx hx=>by have:=ai x hx;push_cast;omega)|(rw [low_no (by first|(left;simpa using aj)|(right;simpa using ah))] at ai;exact λx hx=>by have:=ai x hx;push_cast;omega))⟩) (hL:=(Ab C<|Ab C<|Ab C<|Ab C<|Ab C<|Ab C<|Ab C<|Ab C<|Ab C<|Ab C<|Ab C<|Ab (Dk C<|by first|omega|rfl|((try dsimp only);first|exact best_yes (by simpa using ab) (by first|exact .inl aa|exact .inr ad)|exact (best_yes (by simpa using ab)<|by first|exact .inl aa|exact .inr ad).symm|exact best_no (by first|(left;simpa using ab)|exact .inr ⟨aa,ad⟩)|exact (best_no<|by first|(left;simpa using ab)|exact .inr ⟨aa,ad⟩).symm)) Bs))
    have ax:((e_ M b).xs.take (q+1)).foldl (lowT<|List.set tr.gone (b).toNat (true)) tr.sup=lowT (List.set tr.gone (b).toNat (true)) ae (e_ (e_ M b).xs (q:Int)):=by rw [Ct _ q om,List.foldl_append,←a7];rfl
    have ai:=lowT_rng (gone:=(List.set tr.gone (b).toNat (true))) (p:=(e_ (e_ M b).xs (q:Int))) (by have:=a8 om;omega) a5
    have bk:=lowT_len (List.set tr.gone (b).toNat (true)) ae (e_ (e_ M b).xs (q:Int))
    exact B5 ((q+1),(ae)) (by dsimp only;exact ⟨om,(by rw [ax];first|exact (low_yes (by simpa using aj)<|by simpa using ah).symm|exact (low_no<|by first|(left;simpa using aj)|(right;simpa using ah)).symm),(by first|exact ar|(simp only [List.length_set];exact ar)),(by first|(rw [low_yes (by simpa using aj) (by simpa using ah)] at ai;exact λx hx=>by have:=ai x hx;push_cast;omega)|(rw [low_no (by first|(left;simpa using aj)|(right;simpa using ah))] at ai;exact λx hx=>by have:=ai x hx;push_cast;omega))⟩) (hL:=(Ab C<|Ab C<|Ab C<|Ab C<|Ab C<|Ab C<|Ab C<|Ab C<|Ab C<|Ab C<|Ab C<|Ab (Dk C<|by first|omega|rfl|((try dsimp only);first|exact best_yes (by simpa using ab) (by first|exact .inl aa|exact .inr ad)|exact (best_yes (by simpa using ab)<|by first|exact .inl aa|exact .inr ad).symm|exact best_no (by first|(left;simpa using ab)|exact .inr ⟨aa,ad⟩)|exact (best_no<|by first|(left;simpa using ab)|exact .inr ⟨aa,ad⟩).symm)) Bs))
   have ax:((e_ M b).xs.take (q+1)).foldl (lowT<|List.set tr.gone (b).toNat (true)) tr.sup=lowT (List.set tr.gone (b).toNat (true)) ae (e_ (e_ M b).xs (q:Int)):=by rw [Ct _ q om,List.foldl_append,←a7];rfl
   have ai:=lowT_rng (gone:=(List.set tr.gone (b).toNat (true))) (p:=(e_ (e_ M b).xs (q:Int))) (by have:=a8 om;omega) a5
   have bk:=lowT_len (List.set tr.gone (b).toNat (true)) ae (e_ (e_ M b).xs (q:Int))
   exact B5 ((q+1),(ae)) (by dsimp only;exact ⟨om,(by rw [ax];first|exact (low_yes (by simpa using aj)<|by simpa using ah).symm|exact (low_no<|by first|(left;simpa using aj)|(right;simpa using ah)).symm),(by first|exact ar|(simp only [List.length_set];exact ar)),(by first|(rw [low_yes (by simpa using aj) (by simpa using ah)] at ai;exact λx hx=>by have:=ai x hx;push_cast;omega)|(rw [low_no (by first|(left;simpa using aj)|(right;simpa using ah))] at ai;exact λx hx=>by have:=ai x hx;push_cast;omega))⟩) (hL:=(Ab C<|Ab C<|Ab C<|Ab C<|Ab C<|Ab C<|Ab C<|Ab C<|Ab C<|Ab C<|Ab C<|Ab (Dk C<|by first|omega|rfl|((try dsimp only);first|exact best_yes (by simpa using ab) (by first|exact .inl aa|exact .inr ad)|exact (best_yes (by simpa using ab)<|by first|exact .inl aa|exact .inr ad).symm|exact best_no (by first|(left;simpa using ab)|exact .inr ⟨aa,ad⟩)|exact (best_no<|by first|(left;simpa using ab)|exact .inr ⟨aa,ad⟩).symm)) Bs))
  have ba:(TrS.mk ae (List.set tr.gone (b).toNat (true)) (List.set tr.num (b).toNat (max tr.k<|e_ tr.sup b)) (tr.ord++[b])<|max tr.k<|e_ tr.sup b)=stepTr (trisE nd es) tr:=by unfold stepTr;rw [bj,a7,List.take_of_length_le om,rows_atG ay a0.1 om]
  exact B5 ((j+1),((TrS.mk ae (List.set tr.gone (b).toNat (true)) (List.set tr.num (b).toNat (max tr.k<|e_ tr.sup b)) (tr.ord++[b])<|max tr.k<|e_ tr.sup b)),(a4),(a6)) (by dsimp only;exact ⟨om,(by rw [ba,bc];rfl),(by rw [ba];exact ap.step az om)⟩) (hL:=(Ab (El C<|by first|rfl|simp)<|Ab C<|Ab C<|Ab C<|Ab C<|Ab C<|Ab (Dk C<|by first|omega|rfl|((try dsimp only);first|exact best_yes (by simpa using ab) (by first|exact .inl aa|exact .inr ad)|exact (best_yes (by simpa using ab)<|by first|exact .inl aa|exact .inr ad).symm|exact best_no (by first|(left;simpa using ab)|exact .inr ⟨aa,ad⟩)|exact (best_no<|by first|(left;simpa using ab)|exact .inr ⟨aa,ad⟩).symm))<|Ab C<|Ab (Dk C<|by first|omega|rfl|((try dsimp only);first|exact best_yes (by simpa using ab) (by first|exact .inl aa|exact .inr ad)|exact (best_yes (by simpa using ab)<|by first|exact .inl aa|exact .inr ad).symm|exact best_no (by first|(left;simpa using ab)|exact .inr ⟨aa,ad⟩)|exact (best_no<|by first|(left;simpa using ab)|exact .inr ⟨aa,ad⟩).symm)) Bs))
 have bv:j=(trisE nd es).length:=by omega
 subst bv
 subst bc
 have bm:=ap.nlen
 exact Cy C C C (vc 3 (.slice ao (trussO<|trisE nd es).length co) (trussO<|trisE nd es)::vc 3 (.slice av (trussN<|trisE nd es).length ak) (trussN<|trisE nd es)::I) (by show Fit κ _ (vc 3 _ _::vc 3 (.slice _ (runTr (trisE nd es) (trisE nd es).length).num.length _) (runTr (trisE nd es) (trisE nd es).length).num::I);rw [bm];simp only [List.length_replicate,a9];exact Bb) ⟨ao,co,av,ak,by show _=Value.tuple #[_,.slice _ (runTr (trisE nd es) (trisE nd es).length).num.length _];rw [bm];simp only [List.length_replicate,a9];rfl,rfl⟩
def trussG(nd:Int)(es:List Pt):List Int:=if checkG nd es≠0 then [] else trussN (trisE nd es)
theorem trussG_bd(hG:GrOk nd es)(h1:1<=nd):∀x∈trussG nd es,0<=x/\x<=nd - 1:=λx M=>by
 unfold trussG at M
 rw [if_neg (λh=>h<|checkG_ok.2 hG)] at M
 have:=(trussN_bound<|tris_ok hG).2 x M
 omega
theorem TNumbers_ok(hl:Sl κ I va es)(hb:es.length<=1000000)(hT:TabRd κ I 0 tzCells):eu prog κ 118 [.agg #[e7 nd,va]] I (λr J=>∃a c,r = .tuple #[.slice a (trussG nd es).length c,e7 (checkG nd es)]/\J=vc 3 (.slice a (trussG nd es).length c) (trussG nd es)::I):=by
 refine Ce1 Tryz.func118 C C ?_
 refine Ar<|Ge1 (Al (cs:=[_,_]) C C C) λb1=>Z ?_
 refine Gc0 (Ac c_ C C<|CheckGen_ok<|Au hl)<|Z ?_
 refine Ap C (λc10=>Z ?_)<|λc10=>Z ?_
 ·have M:(trussG nd es)=[]:=if_pos c10
  exact Cy C C C (vc 3 (.slice none (trussG nd es).length 0) (trussG nd es)::I) (by rw [M];exact Ak (show Fit κ _ I from Ah)<|Bw _ _) ⟨none,0,by rw [M];rfl,rfl⟩
 refine G.e (Ac c_ C C<|TPeel_ok (nd:=nd) (Au hl) (checkG_ok.1<|Classical.not_not.1 c10) om<|A8 hT Ah) ?_
 rintro _ _ ⟨_,_,⟨ae,ad,aa,ab,rfl,rfl⟩,rfl,rfl⟩
 refine Z ?_
 have M:(trussG nd es)=_:=if_neg c10
 have hz:checkG nd es=0:=Classical.not_not.1 c10
 exact Cy C C C (vc 3 (.slice aa (trussG nd es).length ab) (trussG nd es)::I) (by rw [M];exact Aj) ⟨aa,ab,by rw [M,hz]<;>rfl,rfl⟩
end Go.Sl
namespace Go.Sl
open Go.Proofs
set_option maxRecDepth 4000
theorem nbL_len(es:List Pt)(v:Int):(nbL es v).length<=2*es.length:=by
 induction es with
 |nil=>simp [nbL]
 |cons e es ih=>
  have M:nbL (e::es) v=((if e.u=v then [e.v] else [])++(if e.v=v then [e.u] else []))++nbL es v:=rfl
  rw [M,List.length_append,List.length_append,List.length_cons]
  have h1:(if e.u=v then [e.v] else ([]:List Int)).length<=1:=by split<;>simp
  have h2:(if e.v=v then [e.u] else ([]:List Int)).length<=1:=by split<;>simp
  omega
end Go.Sl
namespace Go.Sl
open Go.Proofs
set_option maxRecDepth 4000
variable{D N den num:Int}{B:BitVec 64}{ea:Option Addr}{ec:Nat}
variable {κ:Ctx}{I:List Item}
attribute [local irreducible] W G V D A Runs Eff
structure FrV (x:Fr):Prop where
 n0:0<=x.num
 n1:x.num<=1073741824
 d0:1<=x.den
 d1:x.den<=1073741824
 cop:gcdI x.num x.den=1
theorem mkF_val{a b:Int}(M:0<=a)(h1:a<=1073741824)(h2:0<b)(h3:b<=1073741824):FrV (mkF a b):=by
 have hn:=mkF_num M h2
 have hd:=mkF_den (a:=a) h2
 refine ⟨hn.1,by omega,hd.1,by omega,?_⟩
 obtain ⟨m,rfl⟩:=Int.eq_ofNat_of_zero_le M
 obtain ⟨n,rfl⟩:=Int.eq_ofNat_of_zero_le (show 0<=b by omega)
 have hg:0<m.gcd n:=Nat.gcd_pos_of_pos_right _ om
 have hc:=Nat.coprime_div_gcd_div_gcd hg
 unfold mkF gcdI
 simp only [Int.toNat_natCast,Int.ofNat_eq_natCast,←Int.natCast_ediv]
 rw [hc.gcd_eq_one];rfl
def cmpF(x y:Fr):Int:=if x.num*y.den<y.num*x.den then -1 else if y.num*x.den<x.num*y.den then 1 else 0
def sgnI(n:Int):Int:=if n<0 then -1 else if 0<n then 1 else 0
theorem sgn_bd(n:Int) : -1<=sgnI n/\sgnI n<=1:=by unfold sgnI;split<;>(try split)<;>omega
theorem mul_small{x y:Int}(hx:0<=x/\x<=1073741824)(M:0<=y/\y<=1073741824):0<=x*y/\x*y<=1152921504606846976:=by
 refine ⟨Int.mul_nonneg hx.1 M.1,?_⟩
 have h1:=Int.mul_le_mul hx.2 M.2 M.1 dc
 omega
theorem FrV.mul{x y:Fr}(hx:FrV x)(M:FrV y):(0<=x.num*y.den/\x.num*y.den<=1152921504606846976)/\(0<x.num->0<x.num*y.den):=by
 have h1:=hx.n0;have h2:=hx.n1;have h3:=M.d0;have h4:=M.d1
 exact ⟨mul_small ⟨h1,h2⟩ ⟨by omega,h4⟩,λh=>Int.mul_pos h om⟩
theorem Mul64_ok(x y:Int)(hx:0<=x/\x<=1073741824)(M:0<=y/\y<=1073741824):eu prog κ 142 [.int .u64 x,.int .u64 y] I (λr J=>r = .tuple #[.int .u64 0,.int .u64 (x*y)]/\I=J):=by
 have aa:=mul_small hx M
 refine Ce2 Tryz.func142 C C<|Z ?_
 refine Gr (Runs.lowU (m:=x) (r:=x) C C om om om)<|Z ?_
 refine Gr (Runs.shr32 (m:=x) (r:=0) C C om)<|Z ?_
 refine Gr (Runs.lowU (m:=y) (r:=y) C C om om om)<|Z ?_
 refine Gr (Runs.shr32 (m:=y) (r:=0) C C om)<|Z ?_
 refine Gr (Runs.mulU (m:=x) (n:=y) (r:=x*y) C C C om om)<|Z ?_
 refine Gr (Runs.mulU (m:=0) (n:=y) (r:=0) C C (Int.zero_mul _) om om)<|Gm C<|Gr (Runs.shr32 (m:=x*y) (r:=x*y / 4294967296) C C om)<|Gr (Runs.addU (m:=0) (n:=x*y / 4294967296) (r:=x*y / 4294967296) C C om om om)<|Z ?_
 refine Gr (Runs.lowU (m:=x*y / 4294967296) (r:=x*y / 4294967296) C C om om om)<|Z ?_
 refine Gr (Runs.shr32 (m:=x*y / 4294967296) (r:=0) C C om)<|Z ?_
 refine Gr (Runs.mulU (m:=x) (n:=0) (r:=0) C C (Int.mul_zero _) om om)<|Gr (Runs.addU (m:=x*y / 4294967296) (n:=0) (r:=x*y / 4294967296) C C om om om)<|Z ?_
 refine Gr (Runs.mulU (m:=0) (n:=0) (r:=0) C C (Int.zero_mul _) om om)<|Gm C<|Gr (Runs.addU (m:=0) (n:=0) (r:=0) C C om om om)<|Gm C<|Gr (Runs.shr32 (m:=x*y / 4294967296) (r:=0) C C om)<|Gr (Runs.addU (m:=0) (n:=0) (r:=0) C C om om om)<|Z ?_
 exact Gr (Runs.mulU (m:=x) (n:=y) (r:=x*y) C C C om om)<|Ga C<|As<|Bf<|Cy C C C I Ah ⟨rfl,rfl⟩
theorem Sign_ok(n:Int):eu prog κ 141 [e7 n] I (λr J=>r=e7 (sgnI n)/\I=J):=by
 refine Ce1 Tryz.func141 C C<|Z ?_
 refine Ap C (λM=>Z ?_)<|λM=>Z ?_
 ·exact Ai C C I Ah ⟨by unfold sgnI;first|rw [if_pos M]|rw [if_neg M,if_pos c6]|rw [if_neg M,if_neg c6],rfl⟩
 refine Ap C (λc6=>Z ?_)<|λc6=>Z ?_
 ·exact Ai C C I Ah ⟨by unfold sgnI;first|rw [if_pos M]|rw [if_neg M,if_pos c6]|rw [if_neg M,if_neg c6],rfl⟩
 exact Ai C C I Ah ⟨by unfold sgnI;first|rw [if_pos M]|rw [if_neg M,if_pos c6]|rw [if_neg M,if_neg c6],rfl⟩
theorem RatValid_ok(x:Fr)(hx:FrV x):eu prog κ 56 [.agg #[e7 (x.num),e7 (x.den)]] I (λr J=>r = .bool true/\I=J):=by
 have ai:=hx.n0
 have ae:=hx.n1
 have ah:=hx.d0
 have ad:=hx.d1
 refine Ce1 Tryz.func56 C C ?_
 refine Ar<|Ge1 (Al (cs:=[_,_]) C C C) λb1=>Z ?_
 refine G.e (Ac c_ C C<|RWithin_ok x.num 1152921504606846976 om) ?_
 rintro _ _ ⟨_,_,⟨rfl,rfl⟩,rfl,rfl⟩
 refine Gm C<|A6 (d:=6) C (λg6=>Z ?_)<|λg6=>?_
 ·refine A6 (d:=11) C (λab=>Z ?_) (λab=>?_)
  ·refine A6 (d:=16) C (λaa=>Z ?_) (λaa=>?_)
   ·refine e9 (Runs.neg C<|by unfold InR;omega) (Z ?_)
    have M:(if x.num < -(x.num) then -(x.num) else x.num)=x.num:=by rw [if_neg om]
    rw [M]
    refine Z ?_
    refine Dn (B7 C C C) (Ac c_ C C<|Common_ok x.num x.den om om) ?_
    rintro _ _ ⟨_,_,⟨rfl,rfl⟩,rfl,rfl⟩
    refine Z ?_
    exact Ai C C I Ah ⟨by rw [decide_eq_true hx.cop],rfl⟩
   exact absurd om aa
  exact absurd om ab
 exact absurd om g6
theorem RatCmp_ok(x y:Fr)(hx:FrV x)(hy:FrV y):eu prog κ 81 [.agg #[e7 (x.num),e7 (x.den)],.agg #[e7 (y.num),e7 (y.den)]] I (λr J=>r=e7 (cmpF x y)/\I=J):=by
 have aq:=hx.n0
 have av:=hx.n1
 have ay:=hx.d0
 have au:=hx.d1
 have aw:=hy.n0
 have ax:=hy.n1
 have az:=hy.d0
 have ar:=hy.d1
 have a0:=sgn_bd x.num
 have a3:=sgn_bd y.num
 have a6:=hx.mul hy
 have a1:=hy.mul hx
 have a5:x.num=0->x.num*y.den=0:=λh=>by rw [h,Int.zero_mul]
 have a4:y.num=0->y.num*x.den=0:=λh=>by rw [h,Int.zero_mul]
 refine Ce2 Tryz.func81 C C ?_
 refine Ar<|Ge1 (Al (cs:=[_,_]) C C C) λb1=>Ge1 (Al (cs:=[_,_]) C C C) λb2=>Z ?_
 refine Gc0 (Ac c_ C C<|RatValid_ok x asm) ?_
 refine Gr (Cd C)<|Gm C<|e9 (Bl (vs:=[_,_]) ty34) ?_
 refine Dn (B7 C C C) (Ac c_ C C<|RatValid_ok y asm) ?_
 rintro _ _ ⟨_,_,⟨rfl,rfl⟩,rfl,rfl⟩
 refine e9 (Cd C)<|Gr (Ao C C)<|As<|Ef C<|Bt<|Ay<|Ar<|Gf fld34_0 C<|Gl ef ?_
 refine Gc0 (Ac c_ C C<|Sign_ok x.num)<|Z ?_
 refine Gc0 (Ac c_ C C<|Sign_ok y.num)<|Z ?_
 refine A6 (d:=28) C (λap=>Z ?_)<|λap=>Z ?_
 ·refine Gc0 (Ac c_ C C<|Sign_ok<|(sgnI x.num) - (sgnI y.num)) (Z ?_)
  have ab:sgnI x.num=if x.num<0 then -1 else if 0<x.num then 1 else 0:=rfl
  have aa:sgnI y.num=if y.num<0 then -1 else if 0<y.num then 1 else 0:=rfl
  exact Ai C C I Ah ⟨congrArg e7<|by first|(have M:sgnI (sgnI x.num - sgnI y.num)=if sgnI x.num - sgnI y.num<0 then -1 else if 0<sgnI x.num - sgnI y.num then 1 else 0:=rfl;unfold cmpF;rw [M];repeat (first|omega|split))|(unfold cmpF;repeat (first|omega|split)),rfl⟩
 refine Ap C (λak=>Z ?_)<|λak=>Z ?_
 ·refine Gc0 (Ac c_ C C<|Sign_ok<|(sgnI x.num) - (sgnI y.num)) (Z ?_)
  have ab:sgnI x.num=if x.num<0 then -1 else if 0<x.num then 1 else 0:=rfl
  have aa:sgnI y.num=if y.num<0 then -1 else if 0<y.num then 1 else 0:=rfl
  exact Ai C C I Ah ⟨congrArg e7<|by first|(have M:sgnI (sgnI x.num - sgnI y.num)=if sgnI x.num - sgnI y.num<0 then -1 else if 0<sgnI x.num - sgnI y.num then 1 else 0:=rfl;unfold cmpF;rw [M];repeat (first|omega|split))|(unfold cmpF;repeat (first|omega|split)),rfl⟩
 refine Gr (Runs.neg C<|by unfold InR;omega)<|Z ?_
 have ad:(if x.num < -(x.num) then -(x.num) else x.num)=x.num:=by rw [if_neg om]
 rw [ad]
 refine Gr (F0 Bd D4 C om)<|Z ?_
 refine Gr (F0 Bd D4 C om)<|G.e (Ac c_ C C<|Mul64_ok x.num y.den om om) ?_
 rintro _ _ ⟨_,_,⟨rfl,rfl⟩,rfl,rfl⟩
 refine Z ?_
 refine Gr (Runs.neg C<|by unfold InR;omega)<|Z ?_
 have ae:(if y.num < -(y.num) then -(y.num) else y.num)=y.num:=by rw [if_neg om]
 rw [ae]
 refine Gr (F0 Bd D4 C om)<|Z ?_
 refine Gr (F0 Bd D4 C om)<|G.e (Ac c_ C C<|Mul64_ok y.num x.den om om) ?_
 rintro _ _ ⟨_,_,⟨rfl,rfl⟩,rfl,rfl⟩
 refine Z ?_
 refine A6 (d:=68) C (λai=>Z ?_)<|λai=>?_
 ·refine Ap C (λan=>Z ?_) (λan=>Z ?_)
  ·have ab:sgnI x.num=if x.num<0 then -1 else if 0<x.num then 1 else 0:=rfl
   have aa:sgnI y.num=if y.num<0 then -1 else if 0<y.num then 1 else 0:=rfl
   exact Ai C C I Ah ⟨congrArg e7<|by first|(have M:sgnI (sgnI x.num - sgnI y.num)=if sgnI x.num - sgnI y.num<0 then -1 else if 0<sgnI x.num - sgnI y.num then 1 else 0:=rfl;unfold cmpF;rw [M];repeat (first|omega|split))|(unfold cmpF;repeat (first|omega|split)),rfl⟩
  refine A6 (d:=77) C (λaj=>?_)<|λaj=>Z ?_
  ·exact absurd aj dc
  refine A6 (d:=81) C (λah=>Z ?_)<|λah=>?_
  ·refine Ap C (λao=>?_) (λao=>Z ?_)
   ·refine Ar (Gm C<|Gr (Runs.neg C<|by unfold InR;omega)<|Z ?_)
    have ab:sgnI x.num=if x.num<0 then -1 else if 0<x.num then 1 else 0:=rfl
    have aa:sgnI y.num=if y.num<0 then -1 else if 0<y.num then 1 else 0:=rfl
    exact Ai C C I Ah ⟨congrArg e7<|by first|(have M:sgnI (sgnI x.num - sgnI y.num)=if sgnI x.num - sgnI y.num<0 then -1 else if 0<sgnI x.num - sgnI y.num then 1 else 0:=rfl;unfold cmpF;rw [M];repeat (first|omega|split))|(unfold cmpF;repeat (first|omega|split)),rfl⟩
   have ab:sgnI x.num=if x.num<0 then -1 else if 0<x.num then 1 else 0:=rfl
   have aa:sgnI y.num=if y.num<0 then -1 else if 0<y.num then 1 else 0:=rfl
   exact Ai C C I Ah ⟨congrArg e7<|by first|(have M:sgnI (sgnI x.num - sgnI y.num)=if sgnI x.num - sgnI y.num<0 then -1 else if 0<sgnI x.num - sgnI y.num then 1 else 0:=rfl;unfold cmpF;rw [M];repeat (first|omega|split))|(unfold cmpF;repeat (first|omega|split)),rfl⟩
  exact absurd rfl ah
 exact absurd rfl ai
theorem BestR.frv{nd:Int}{es:List Pt}(h:BestR nd es N D B)(M:GrOk nd es):FrV ⟨N,D⟩:=by
 by_cases hn:nd=0
 ·obtain ⟨h1,h2,_⟩:=h.none (checkG_ok.2 M) hn
  subst h1 h2
  exact ⟨by decide,by decide,by decide,by decide,by decide⟩
 obtain ⟨x,y,hx,hy,e⟩:=(h.some (checkG_ok.2 M) hn).red
 rw [e]
 exact mkF_val hx.1 om om om
theorem cmpF_ge{x y:Fr}:0<=cmpF x y↔y.num*x.den<=x.num*y.den:=by unfold cmpF;repeat (first|omega|split)
def densQ(nd:Int)(es:List Pt)(num den:Int):Prop:=if nd=0 then num<=0 else ∃W,subN nd W/\W≠0#64/\num*cntB W<=den*insE W es
theorem BestR.holds{nd:Int}{es:List Pt}(h:BestR nd es N D B)(M:GrOk nd es)(hf:FrV ⟨num,den⟩):0<=cmpF ⟨N,D⟩ ⟨num,den⟩↔densQ nd es num den:=by
 rw [cmpF_ge]
 unfold densQ
 by_cases hn:nd=0
 ·obtain ⟨h1,h2,_⟩:=h.none (checkG_ok.2 M) hn
  subst h1 h2
  rw [if_pos hn]
  show num*1<=0*den↔_
  omega
 rw [if_neg hn]
 have hd:=h.some (checkG_ok.2 M) hn
 exact hd.dens.reach hd.den.1 hf.d0
theorem densG_frv{nd:Int}{es:List Pt}(M:GrOk nd es)(set:List Int):FrV (densG nd es set):=by
 unfold densG
 rw [if_neg (λh=>h<|checkG_ok.2 M)]
 split
 ·exact ⟨by decide,by decide,by decide,by decide,by decide⟩
 rename_i hm
 have h1:=insideN_le nd es set
 have h2:=edges_le M
 have h3:(meetL set<|rangeI nd).length<=1073741824:=by
  have hl:=dens_count (nd:=nd) (es:=es) set (λh=>h<|checkG_ok.2 M)
  have hb:=onesB_bd (maskB set &&& allB nd)
  omega
 exact mkF_val om om om om
def commG(nd:Int)(es:List Pt)(v lv:Int):List Int:=rchG nd es [v] (coreK nd es lv)
theorem rchG_len(nd:Int)(es:List Pt)(f s:List Int):(rchG nd es f s).length<=64:=by
 unfold rchG
 split
 ·simp
 exact Ee _
theorem Comm_ok{κ:Ctx}{I:List Item}{nd v lv:Int}{es:List Pt}(hl:Sl κ I (.slice ea es.length ec) es)(hG:GrOk nd es)(hv:0<=v/\v<nd)(hT:TabRd κ I 0 tzCells):eu prog κ 61 [.agg #[e7 nd,.slice ea es.length ec],e7 v,e7 lv] I (λr J=>∃a c,r = .tuple #[.slice a (commG nd es v lv).length c,e7 0]/\J=vc 3 (.slice a (commG nd es v lv).length c) (commG nd es v lv)::I):=by
 refine Ce3 Tryz.func61 C C ?_
 refine Ar<|Ge1 (Al (cs:=[_,_]) C C C) λb1=>Z ?_
 refine Gc0 (Ac c_ C C<|CheckGen_ok<|Au hl)<|Z ?_
 refine Ap C (λab=>?_)<|λab=>Z ?_
 ·exact absurd (checkG_ok.2 hG) ab
 refine A6 (d:=18) C (λae=>?_)<|λae=>Z ?_
 ·omega
 refine Ap C (λah=>?_)<|λah=>Z ?_
 ·omega
 refine G.e (Ac c_ C C<|CCore_ok (nd:=nd) (lv:=lv) (Au hl)<|A8 hT Ah) ?_
 rintro _ _ ⟨_,_,⟨ak,ai,rfl,rfl⟩,rfl,rfl⟩
 refine Z ?_
 refine Ap C (λaa=>?_)<|λaa=>Z ?_
 ·exact absurd (checkG_ok.2 hG) aa
 refine Ge1 (B9 (α:=Int) (cs:=[_]) (xs:=[v]) Aa ef C C dc dc C C C C) λaj=>?_
 refine Gm C<|Gc2 (Ac c_ C C<|CReach_ok (nd:=nd) (Au hl) A7 A7<|A8 hT Ah) λad M=>Z ?_
 exact Cy C C C (vc 3 (.slice ad (rchG nd es ([v]:List Int)<|coreK nd es lv).length M) (commG nd es v lv)::I) Bb ⟨ad,M,by rw [checkG_ok.2 hG]<;>rfl,rfl⟩
section
variable {nd kd wd mo tm:Int}{es:List Ev}{fst own:Bool}{j j1:Nat}
theorem all_le(hH:HistOk nd kd wd mo es){i k:Nat}(h:i<=k)(M:k<(allE kd wd mo es).length):(e_ (allE kd wd mo es) i).tm<=(e_ (allE kd wd mo es) k).tm:=by
 by_cases e:i=k
 ·subst e;exact Int.le_refl _
 rw [Cx _ i om,Cx _ k M]
 exact (List.pairwise_iff_getElem.1 hH.all_asc) i k om M om
theorem mom_bef(hH:HistOk nd kd wd mo es)(M:MomentX (allE kd wd mo es) fst j tm own j1):∀i:Nat,i<j1->(e_ (allE kd wd mo es) i).tm<=tm:=λi hi=>by
 by_cases h:i<j
 ·cases hf:fst with
  |true=>have:=(M.first hf).2;omega
  |false=>
   obtain ⟨h1,h2⟩:=M.next hf
   rw [h2];exact all_le hH om h1
 exact Int.le_of_eq<|M.same i om hi
theorem mom_next(hH:HistOk nd kd wd mo es)(M:MomentX (allE kd wd mo es) fst j tm own j1)(h:j1<(allE kd wd mo es).length):tm<(e_ (allE kd wd mo es) j1).tm:=by
 have aa:=M.stop h
 have ab:tm<=(e_ (allE kd wd mo es) j1).tm:=by
  cases hf:fst with
  |true=>
   rw [(M.first hf).1]
   exact (hH.allFit _<|Bx (i:=(j1:Int)) om om).tm.1
  |false=>
   obtain ⟨h1,h2⟩:=M.next hf
   rw [h2];exact all_le hH (by have:=M.le.1;omega) h
 omega
theorem mom_graph(hH:HistOk nd kd wd mo es)(M:MomentX (allE kd wd mo es) fst j tm own j1):edgesK (eh ((allE kd wd mo es).take j1))=atG kd wd mo es tm:=by
 unfold atG
 rw [atK_stop M.le.2 (mom_bef hH M) (mom_next hH M)]
def FirstYes(kd wd mo:Int)(es:List Ev)(p:Int->Prop)(t:Int):Prop:=(∃e∈allE kd wd mo es,e.tm=t)/\p t/\∀e∈allE kd wd mo es,e.tm<t->¬p e.tm
def FirstP(kd wd mo:Int)(es:List Ev)(p:Int->Prop)(t:Int)(ok:Bool):Prop:=(ok=true/\FirstYes kd wd mo es p t)\/(ok=false/\t=0/\∀e∈allE kd wd mo es,¬p e.tm)
theorem fi_next{p:Int->Prop}(M:MomentX (allE kd wd mo es) fst j tm own j1)(hq:∀i:Nat,i<j->¬p (e_ (allE kd wd mo es) i).tm)(hn:own=true->¬p tm):∀i:Nat,i<j1->¬p (e_ (allE kd wd mo es) i).tm:=λi hi=>by
 by_cases h:i<j
 ·exact hq i h
 rw [M.same i om hi]
 exact hn<|by rw [M.own,decide_eq_true om]
theorem fi_yes{p:Int->Prop}(hH:HistOk nd kd wd mo es)(M:MomentX (allE kd wd mo es) fst j tm own j1)(hq:∀i:Nat,i<j->¬p (e_ (allE kd wd mo es) i).tm)(ho:own=true)(hp:p tm):FirstYes kd wd mo es p tm:=by
 have hj:j<j1:=by have:=M.own;rw [ho] at this;exact of_decide_eq_true this.symm
 have hl:=M.le.2
 refine ⟨⟨_,Bx (i:=(j:Int)) om om,M.same j (Nat.le_refl _) hj⟩,hp,λe he hlt=>?_⟩
 obtain ⟨i,hi,rfl⟩:=E7 he
 by_cases h:i<j
 ·exact hq i h
 have h1:=all_le hH (i:=j) (k:=i) om hi
 rw [M.same j (Nat.le_refl _) hj] at h1
 omega
theorem fi_no{p:Int->Prop}(M:∀i:Nat,i<(allE kd wd mo es).length->¬p (e_ (allE kd wd mo es) i).tm):∀e∈allE kd wd mo es,¬p e.tm:=λe he=>by
 obtain ⟨i,hi,rfl⟩:=E7 he
 exact M i hi
end
def reachQ(nd kd wd mo:Int)(es:List Ev)(num den t:Int):Prop:=densQ nd (atG kd wd mo es t) num den
theorem AFirst_ok{κ:Ctx}{I:List Item}{nd kd wd mo:Int}{es:List Ev}(hl:Sl κ I (.slice ea es.length ec) es)(hH:HistOk nd kd wd mo es)(hlen:es.length<=19)(hf:FrV ⟨num,den⟩)(hT:TabRd κ I 0 tzCells):eu prog κ 35 [e7 nd,.slice ea es.length ec,.agg #[e7 kd,e7 wd,e7 mo],.agg #[e7 num,e7 den]] I (λr J=>∃tv ok,r = .tuple #[e7 tv,.bool ok,e7 0]/\FirstP kd wd mo es (reachQ nd kd wd mo es num den) tv ok/\I=J):=by
 refine eu.enterM (L:=[(0,e7 nd),(1,.slice ea es.length ec),(2,.agg #[e7 kd,e7 wd,e7 mo]),(3,.agg #[e7 num,e7 den])]) Tryz.func35 C C C C ?_
 refine Ar<|Ge1 (Al (cs:=[_,_,_]) C C C) λb1=>Ge1 (Al (cs:=[_,_]) C C C) λb2=>Ge1 (Am ef C) λb3=>Ge1 (Am ty4 C) λb4=>Ge1 (Am ty43 C) λb5=>Z ?_
 refine Gc0 (Ac c_ C C<|ACheck_ok (nd:=nd) (kd:=kd) (wd:=wd) (mo:=mo)<|Au hl)<|Z ?_
 refine Ap C (λar=>?_)<|λar=>Z ?_
 ·exact absurd (slideE_zeroH hH) ar
 refine Gc0 (Ac c_ C C<|RatValid_ok (⟨num,den⟩:Fr)<|by first|exact hf|exact ae.frv ad)<|Z ?_
 refine G.e (Ac c_ C C Frames_ok) ?_
 rintro _ _ ⟨_,_,⟨M,ab,aa,rfl,rfl⟩,rfl,rfl⟩
 refine Z ?_
 refine Bg (S5 29 10 9 8 7 C C C C C)<|Z ?_
 refine W.fit (J:=e8 b3 [e7 0] 3::e8 b4 [.bool false] 4::e8 b5 [e7 0] 43::e8 aa [e7 kd,e7 wd,e7 mo] 31::e8 ab [.slice ea es.length ec] 28::e8 M [e7 nd] 3::e8 b2 [e7 num,e7 den] 34::e8 b1 [e7 kd,e7 wd,e7 mo] 31::I) Bb ?_
 refine W.rangeFnB (gf:=131) (lb:=[.pointer (some ⟨M,0,none⟩),.pointer<|some ⟨ab,0,none⟩,.pointer<|some ⟨aa,0,none⟩]) C c_ λDm l rc ak aq ay ax az=>?_
 refine (Frames1_ok (I:=e8 aa [e7 kd,e7 wd,e7 mo] 31::e8 ab [.slice ea es.length ec] 28::e8 M [e7 nd] 3::e8 b2 [e7 num,e7 den] 34::e8 b1 [e7 kd,e7 wd,e7 mo] 31::I) (σ:=Unit) (τ:=Int) (l:=l) (Lf:=λs=>[recI l rc,dfrI Dm,e8 b3 [e7 0] 3,e8 b4 [.bool false] 4,e8 b5 [e7 0] 43]) (Pf:=λfst j s=>(∀i:Nat,i<j->¬(reachQ nd kd wd mo es num den) (e_ (allE kd wd mo es) i).tm)) (Xf:=λs=>[recI l {rc with state:= .done,pending:=some .ret},dfrI Dm,e8 b3 [e7 s] 3,e8 b4 [.bool true] 4,e8 b5 [e7 0] 43]) (Qf:=λs=>(FirstYes kd wd mo es (reachQ nd kd wd mo es num den) s)) (s0:=()) hH hlen (Cw mm) (Cw mm) (Cw mm) (Au hl) (λi h=>absurd h<|Nat.not_lt_zero i) ?_).mono ?_
 ·rintro T an fst j tm own j1 ga gc hM _ hp
  have hq:(∀i:Nat,i<j->¬(reachQ nd kd wd mo es num den) (e_ (allE kd wd mo es) i).tm):=hp
  have ap:BlkRd κ T b2 [e7 num,e7 den] 34:=(Cw (I:=e8 aa [e7 kd,e7 wd,e7 mo] 31::e8 ab [.slice ea es.length ec] 28::e8 M [e7 nd] 3::e8 b2 [e7 num,e7 den] 34::e8 b1 [e7 kd,e7 wd,e7 mo] 31::I) mm).fit an
  have av:TabRd κ T 0 tzCells:=(A8 (J:=e8 aa [e7 kd,e7 wd,e7 mo] 31::e8 ab [.slice ea es.length ec] 28::e8 M [e7 nd] 3::e8 b2 [e7 num,e7 den] 34::e8 b1 [e7 kd,e7 wd,e7 mo] 31::I) hT Ah).fit an
  have ah:=mom_graph hH hM
  have ad:GrOk nd (edgesK<|eh<|(allE kd wd mo es).take j1):=by rw [ah];exact hH.graph tm
  refine YieldB.fit (J:=recI l rc::vc 95 (.slice ga (edgesK<|eh<|(allE kd wd mo es).take j1).length gc) (edgesK<|eh<|(allE kd wd mo es).take j1)::dfrI Dm::e8 b3 [e7 0] 3::e8 b4 [.bool false] 4::e8 b5 [e7 0] 43::T) Bb ?_
  refine YieldB.mkA (L₀:=[(31,.agg #[e7 nd,.slice ga (edgesK<|eh<|(allE kd wd mo es).take j1).length gc]),(30,.agg #[e7 tm,.bool own]),(29,.func (.func 131) #[] #[.pointer (some ⟨M,0,none⟩),.pointer<|some ⟨ab,0,none⟩,.pointer<|some ⟨aa,0,none⟩]),(10,.pointer<|some ⟨b5,0,none⟩),(9,.pointer<|some ⟨b4,0,none⟩),(8,.pointer<|some ⟨b3,0,none⟩),(7,.pointer<|some ⟨b2,0,none⟩)]) (by rw [aq];rfl) ay ax (by rw [aq,fold_two];exact ag_two az C C) ?_
  refine Ex ?_
  refine Dp (λ_ _ h=>False.elim h) C ?_
  refine Ge1 (Am ty115 C) λb9=>Ge0 (Cf ty115) ?_
  refine Bi<|D9 ?_
  refine Dp (λ_ _ h=>False.elim h) C ?_
  refine Ge1 (Am ty56 C) λaw=>Ge0 (Cf ty56) ?_
  refine Bi<|V.begin (e8 aw [e7 nd,.slice ga (edgesK<|eh<|(allE kd wd mo es).take j1).length gc] 56::e8 b9 [e7 tm,.bool own] 115::vc 95 (.slice ga (edgesK<|eh<|(allE kd wd mo es).take j1).length gc) (edgesK<|eh<|(allE kd wd mo es).take j1)::dfrI Dm::e8 b3 [e7 0] 3::e8 b4 [.bool false] 4::e8 b5 [e7 0] 43::T) Bb ak ?_
  refine WR.block ?_
  refine Ex ?_
  refine Dp (λ_ _ h=>False.elim h) C<|Z ?_
  refine G.e (Ac c_ C C<|BestD_ok (nd:=nd) A7<|A8 av Ah) ?_
  rintro _ _ ⟨_,_,⟨a1,a4,Bqq15,a0,a3,au,Nqq15,Dqq15,Eqq15,rfl,⟨ae,a5⟩,rfl⟩,rfl,rfl⟩
  refine Z ?_
  refine Ge1 (Am ty118 C) λa6=>Ge0 (Dl ty118) ?_
  refine Ga C<|Bi<|D9 ?_
  refine Fk (L':=[(15,_),(14,_),(12,_),(10,_),(9,_),(8,_),(7,_)]) (Ab C<|Ab C<|Ab C<|Ab C<|Ab C<|Ab C<|Ab C Bs) ?_
  refine Ex ?_
  refine Dp (λ_ _ h=>False.elim h) C<|Z ?_
  refine Ce (d:=39) C (λaj=>Z ?_)<|λaj=>?_
  ·refine A6 (d:=43) C (λao=>Z ?_) (λao=>?_)
   ·refine e9 (Runs.loadBs (vs:=[_,_]) ty34 C (Co ap Ah) C C) ?_
    refine Dn (B7 C C C) (Ac c_ C C<|RatCmp_ok (⟨Nqq15,Dqq15⟩:Fr) (⟨num,den⟩:Fr) (by first|exact hf|exact ae.frv ad)<|by first|exact hf|exact ae.frv ad) ?_
    rintro _ _ ⟨_,_,⟨rfl,rfl⟩,rfl,rfl⟩
    refine Z ?_
    refine D9 ?_
    refine Fk (L':=[(49,_),(12,_),(10,_),(9,_),(8,_)]) (Ab C<|Ab C<|Ab C<|Ab C<|Ab C Bs) ?_
    refine WR.ite C (λai=>?_)<|λai=>?_
    ·refine Ex ?_
     refine Dp (λ_ _ h=>False.elim h) C<|Z ?_
     refine Ge0 (A3 (cs:=[_]) (vs:=[_]) (cs':=[_]) ef) ?_
     refine Ge0 (A3 (cs:=[_]) (vs:=[_]) (cs':=[_]) ty4) ?_
     refine Ge0 (A3 (cs:=[_]) (vs:=[_]) (cs':=[_]) ty43) ?_
     refine Bi<|D9 ?_
     refine WR.ret ?_
     exact B6<|V.roundRet (dfrI Dm::e8 b3 [e7 tm] 3::e8 b4 [.bool true] 4::e8 b5 [e7 0] 43::T) Bb<|.inr ⟨rfl,(tm),(fi_yes hH hM hq aj<|by have h:=(ae.holds ad hf).1 ai;rw [ah] at h;exact h),rfl⟩
    refine WR.skip ?_
    exact Av<|E5 (dfrI Dm::e8 b3 [e7 0] 3::e8 b4 [.bool false] 4::e8 b5 [e7 0] 43::T) Bb ak<|.inl ⟨rfl,(),(fi_next hM hq<|by first|exact λh=>absurd (aj.symm.trans h) dc|exact λ_ h=>ai<|(ae.holds ad hf).2 (by rw [ah];exact h)),rfl⟩
   exact absurd (checkG_ok.2 ad) ao
  refine eb<|eb<|Gr (Ao C C)<|Gm C<|eb<|eb<|eb<|eb<|eb<|Gr (Ao C C)<|Bi<|D9 ?_
  refine Fk (L':=[(49,_),(12,_),(10,_),(9,_),(8,_)]) (Ab C<|Ab C<|Ab C<|Ab C<|Ab C Bs) ?_
  refine WR.no C ?_
  refine WR.skip ?_
  exact Av<|E5 (dfrI Dm::e8 b3 [e7 0] 3::e8 b4 [.bool false] 4::e8 b5 [e7 0] 43::T) Bb ak<|.inl ⟨rfl,(),(fi_next hM hq<|by first|exact λh=>absurd (aj.symm.trans h) dc|exact λ_ h=>ai<|(ae.holds ad hf).2 (by rw [ah];exact h)),rfl⟩
 rintro v K ⟨rfl,(⟨_,hp,rfl⟩|⟨tv,hp,rfl⟩)⟩
 ·have hq:(∀i:Nat,i<(allE kd wd mo es).length->¬(reachQ nd kd wd mo es num den) (e_ (allE kd wd mo es) i).tm):=hp
  refine .inl ⟨_,rfl,?_⟩
  show V κ _ _ .normal ([(29,.func (.func 131) #[] #[.pointer (some ⟨M,0,none⟩),.pointer<|some ⟨ab,0,none⟩,.pointer<|some ⟨aa,0,none⟩]),(10,.pointer<|some ⟨b5,0,none⟩),(9,.pointer<|some ⟨b4,0,none⟩),(8,.pointer<|some ⟨b3,0,none⟩),(7,.pointer<|some ⟨b2,0,none⟩)]:Env) (dfrI Dm::e8 b3 [e7 0] 3::e8 b4 [.bool false] 4::e8 b5 [e7 0] 43::e8 aa [e7 kd,e7 wd,e7 mo] 31::e8 ab [.slice ea es.length ec] 28::e8 M [e7 nd] 3::e8 b2 [e7 num,e7 den] 34::e8 b1 [e7 kd,e7 wd,e7 mo] 31::I)
  refine Av<|Ay<|Ar<|Ge0 (A3 (cs:=[_]) (vs:=[_]) (cs':=[_]) ef) ?_
  refine Ge0 (A3 (cs:=[_]) (vs:=[_]) (cs':=[_]) ty4) ?_
  refine Ge0 (A3 (cs:=[_]) (vs:=[_]) (cs':=[_]) ty43) ?_
  refine As<|Bf<|V.fit (J:=dfrI Dm::e8 b3 [e7 0] 3::e8 b4 [.bool false] 4::e8 b5 [e7 0] 43::e8 aa [e7 kd,e7 wd,e7 mo] 31::e8 ab [.slice ea es.length ec] 28::e8 M [e7 nd] 3::e8 b2 [e7 num,e7 den] 34::e8 b1 [e7 kd,e7 wd,e7 mo] 31::I) Bb<|V.leave ?_
  exact V.retv3 C ef ty4 ty43 C C C mm mm mm I Ah ⟨0,false,rfl,.inr ⟨rfl,rfl,fi_no hq⟩,rfl⟩
 have hQ:(FirstYes kd wd mo es (reachQ nd kd wd mo es num den) tv):=hp
 refine .inr ⟨_,_,rfl,?_⟩
 refine Bf<|B6<|Bq<|V.fit (J:=dfrI Dm::e8 b3 [e7 tv] 3::e8 b4 [.bool true] 4::e8 b5 [e7 0] 43::e8 aa [e7 kd,e7 wd,e7 mo] 31::e8 ab [.slice ea es.length ec] 28::e8 M [e7 nd] 3::e8 b2 [e7 num,e7 den] 34::e8 b1 [e7 kd,e7 wd,e7 mo] 31::I) Bb<|V.leave ?_
 exact V.retv3 C ef ty4 ty43 C C C mm mm mm I Ah ⟨tv,true,rfl,.inl ⟨rfl,hQ⟩,rfl⟩
end Go.Sl
/- The links at a time depend on the events up to it alone. No conditions. -/
namespace Go.Sl
end Go.Sl
namespace Go.Sl
open Go.Proofs
set_option maxRecDepth 4000
variable{I:List Item}{nd:Int}{ea:Option Addr}{ec:Nat}
section
variable {P:Program}{κ:Ctx}{N:Frm}{L:Env}{J:List Item}{d:Option Tmp}{ty:TypeId}{ps:String}{af:Array Edge}{gd:Option (Nat×Bool)}
theorem Runs.eqC{x y:Operand}{T U:TypeId}{v u:Value}{b:Bool}(hg:∀w:World,(eqGuard .eql T x y v u).run P w = .ok () w)(hT:∀w:World,(binOp .eql T v u).run P w = .ok (.bool b) w)(hx:er L x=some v)(hy:er L y=some u) :
  Runs P κ N ⟨d,.binOp .eql T x y U,ty,ps,af,gd⟩ L J (.bool b):=λa w M _=>by
 simp only [execOp,M.eval hx,M.eval hy]
 simp [hg w,hT w]
end
attribute [local irreducible] W G V D A Runs Eff
theorem PAt_ok{κ:Ctx}{kd wd mo tq:Int}{es:List Ev}(hl:Sl κ I (.slice ea es.length ec) es)(hH:HistOk nd kd wd mo es)(hlen:es.length<=19)(ht:0<=tq/\tq<=1048576):eu prog κ 59 [.agg #[e7 nd,.slice ea es.length ec,e7 kd,e7 wd,e7 mo],e7 tq] I (λr J=>∃a c,r = .agg #[e7 nd,.slice a (atG kd wd mo es tq).length c]/\J=vc 95 (.slice a (atG kd wd mo es tq).length c) (atG kd wd mo es tq)::I):=by
 refine Ce2 Tryz.func59 C C ?_
 refine Ar<|Ge1 (Al (cs:=[_,_,_,_,_]) C C C) λb1=>Ge1 (Am ty56 C) λb2=>Z ?_
 refine G.e (Ac c_ C C<|At_ok (nd:=nd) (kd:=kd) (wd:=wd) (mo:=mo) (tq:=tq) (Au hl) hH hlen ht) ?_
 rintro _ _ ⟨_,_,⟨M,aa,rfl,rfl⟩,rfl,rfl⟩
 refine Z ?_
 refine Ge1 (Am ty56 C) λb5=>Ge0 (Cf ty56)<|Z ?_
 refine Ge0 (Cf ty56) ?_
 exact As<|Bf<|B0 C ty56 C mm C (vc 95 (.slice M (atG kd wd mo es tq).length aa) (atG kd wd mo es tq)::I) Bb ⟨M,aa,rfl,rfl⟩
theorem ADense_ok{κ:Ctx}{tv:Int}{es:List Pt}(hl:Sl κ I (.slice ea es.length ec) es)(hT:TabRd κ I 0 tzCells):eu prog κ 67 [.agg #[e7 nd,.slice ea es.length ec],.agg #[.bool false,e7 0,e7 tv,.slice none 0 0,e7 0,e7 0,.slice none 0 0,.slice none 0 0,.slice none 0 0,e7 0,.slice none 0 0]] I (λr J=>∃a c B a2 c2 parts N D E,r = .agg #[.bool true,e7 0,e7 tv,.slice a (eo B).length c,e7 N,e7 D,.slice none 0 0,.slice none 0 0,.slice none 0 0,e7 E,.slice a2 (parts:List Int).length c2]/\(BestR nd es N D B/\SplitB nd es N D E parts)/\J=vc 3 (.slice a (eo B).length c) (eo B)::vc 3 (.slice a2 parts.length c2) parts::I):=by
 refine Ce2 Tryz.func67 C C ?_
 refine Ar<|Ge1 (Al (cs:=[_,_]) C C C) λb1=>Ge1 (Al (cs:=[_,_,_,_,_,_,_,_,_,_,_]) C C C) λb2=>Ge1 (Am ty42 C) λb3=>Z ?_
 refine G.e (Ac c_ C C<|BestD_ok (nd:=nd) (Au hl)<|A8 hT Ah) ?_
 rintro _ _ ⟨_,_,⟨ab,ae,Bqq8,ad,aa,M,Nqq8,Dqq8,Eqq8,rfl,⟨ai,ah⟩,rfl⟩,rfl,rfl⟩
 refine Z ?_
 refine Ge1 (Am ty118 C) λb9=>Ge0 (Dl ty118) ?_
 refine Ga C<|As<|A5<|A4 mixed<|Cm (e8 b9 [.slice ab (eo Bqq8).length ae,e7 Nqq8,e7 Dqq8,e7 Eqq8,.slice ad M.length aa] 118::vc 3 (.slice ab (eo Bqq8).length ae) (eo Bqq8)::vc 3 (.slice ad M.length aa) (M)::e8 b3 [.bool false,e7 0,e7 0,.slice none 0 0,e7 0,e7 0,.slice none 0 0,.slice none 0 0,.slice none 0 0,e7 0,.slice none 0 0] 42::e8 b1 [e7 nd,.slice ea es.length ec] 56::I) 14<|Z ?_
 refine Ds1 7<|Se0 C (A3 (cs:=[_,_,_,_,_,_,_,_,_,_,_]) (vs:=[_]) (cs':=[_,_,_,_,_,_,_,_,_,_,_]) ty4)<|Z ?_
 refine Ds1 9<|Se0 C (A3 (cs:=[_,_,_,_,_,_,_,_,_,_,_]) (vs:=[_]) (cs':=[_,_,_,_,_,_,_,_,_,_,_]) ty22)<|Z ?_
 refine Ds1 11<|Se0 C (A3 (cs:=[_,_,_,_,_,_,_,_,_,_,_]) (vs:=[_,_]) (cs':=[_,_,_,_,_,_,_,_,_,_,_]) ty34)<|Z ?_
 refine Ds1 13<|Se0 C (A3 (cs:=[_,_,_,_,_,_,_,_,_,_,_]) (vs:=[_,_]) (cs':=[_,_,_,_,_,_,_,_,_,_,_]) ty40)<|Z ?_
 refine Ge0 (A3 (cs:=[_,_,_,_,_,_,_,_,_,_,_]) (vs:=[_,_,_,_,_,_,_,_,_,_,_]) (cs':=[_,_,_,_,_,_,_,_,_,_,_]) ty42) ?_
 exact As<|Bf<|B0 C ty42 C mm C (vc 3 (.slice ab (eo Bqq8).length ae) (eo Bqq8)::vc 3 (.slice ad M.length aa) M::I) Bb ⟨ab,ae,Bqq8,ad,aa,M,Nqq8,Dqq8,Eqq8,rfl,⟨ai,ah⟩,rfl⟩
end Go.Sl
namespace Go.Sl
end Go.Sl
namespace Go.Sl
open Go.Proofs
set_option maxRecDepth 4000


end Go.Sl
namespace Go.Sl
end Go.Sl
namespace Go.Sl
open Go.Proofs
set_option maxRecDepth 4000

end Go.Sl
namespace Go.Sl
open Go.Proofs
set_option maxRecDepth 4000
attribute [local irreducible] W G V D A Runs Eff
theorem Answers_ok{κ:Ctx}{I:List Item}  :
    eu prog κ 28 [] I (λr J=>∃m_:Nat,r = .map (some m_)/\J=mp m_ [({key:=e7 1,val:= .func (.func 57) #[] #[],born:=0}:MapEntry),({key:=e7 2,val:= .func (.func 60) #[] #[],born:=1}:MapEntry),({key:=e7 3,val:= .func (.func 62) #[] #[],born:=2}:MapEntry),({key:=e7 4,val:= .func (.func 64) #[] #[],born:=3}:MapEntry),({key:=e7 5,val:= .func (.func 66) #[] #[],born:=4}:MapEntry),({key:=e7 6,val:= .func (.func 68) #[] #[],born:=5}:MapEntry),({key:=e7 7,val:= .func (.func 70) #[] #[],born:=6}:MapEntry),({key:=e7 8,val:= .func (.func 72) #[] #[],born:=7}:MapEntry),({key:=e7 9,val:= .func (.func 73) #[] #[],born:=8}:MapEntry),({key:=e7 10,val:= .func (.func 74) #[] #[],born:=9}:MapEntry)] 10::I):=by
 refine Ce0 Tryz.func28 C C<|Z ?_
 refine Ge1 (Eff.makeMap C) λM=>?_
 refine Ge0 (Ds B8 Bd C C C C C am) ?_
 refine Ge0 (Ds B8 Bd C C C C C am) ?_
 refine Ge0 (Ds B8 Bd C C C C C am) ?_
 refine Ge0 (Ds B8 Bd C C C C C am) ?_
 refine Ge0 (Ds B8 Bd C C C C C am) ?_
 refine Ge0 (Ds B8 Bd C C C C C am) ?_
 refine Ge0 (Ds B8 Bd C C C C C am) ?_
 refine Ge0 (Ds B8 Bd C C C C C am) ?_
 refine Ge0 (Ds B8 Bd C C C C C am) ?_
 refine Ge0 (Ds B8 Bd C C C C C am)<|Z ?_
 exact Ai C C (mp M [({key:=e7 1,val:= .func (.func 57) #[] #[],born:=0}:MapEntry),({key:=e7 2,val:= .func (.func 60) #[] #[],born:=1}:MapEntry),({key:=e7 3,val:= .func (.func 62) #[] #[],born:=2}:MapEntry),({key:=e7 4,val:= .func (.func 64) #[] #[],born:=3}:MapEntry),({key:=e7 5,val:= .func (.func 66) #[] #[],born:=4}:MapEntry),({key:=e7 6,val:= .func (.func 68) #[] #[],born:=5}:MapEntry),({key:=e7 7,val:= .func (.func 70) #[] #[],born:=6}:MapEntry),({key:=e7 8,val:= .func (.func 72) #[] #[],born:=7}:MapEntry),({key:=e7 9,val:= .func (.func 73) #[] #[],born:=8}:MapEntry),({key:=e7 10,val:= .func (.func 74) #[] #[],born:=9}:MapEntry)] 10::I) Bb ⟨M,rfl,rfl⟩
end Go.Sl
namespace Go.Sl
open Go.Proofs
set_option maxRecDepth 4000






end Go.Sl
namespace Go.Sl
section
variable {P:Program}{κ:Ctx}{N:Frm}{Q:Exit->Act->World->Prop}{L:Env}{I J:List Item}{ops:Array Oper}{l m:Nat}
theorem op_round{i:Nat}{K K':Act->World->Prop}{a:Act}{w:World}(hq:¬LetsOut Q)(M:∀o,ops[i]? = some o->∀c,o.op ≠ .defer c)(hK:∀a w,K a w->K' a w)(h:wpOp P ops Q i K a w):wpOpIn (Fence.wide.inRound l) m P ops Q i K' a w:=by
 unfold wpOp at h
 unfold wpOpIn
 cases ho:ops[i]? with
 |none=>rw [ho] at h;exact hK _ _ h
 |some o=>
  rw [ho] at h
  simp only at h ⊢
  by_cases hw:Region.wanted o (yielded ops a.tmps)=true
  ·rw [if_pos hw] at h ⊢
   rcases h with h|h
   ·refine ⟨λ_ _=>trivial,?_⟩
    rw [Fence.inRound_round,Oper.semAt_some _ _ _<|M o ho]
    exact upon_round hq hK _ h
   exact absurd h.2 hq
  rw [if_neg hw] at h ⊢
  exact ⟨λ_ _=>trivial,hK _ _ h⟩
theorem any_round(hq:¬LetsOut Q)(M:∀o∈ops.toList,∀c,o.op ≠ .defer c):∀(fuel:Nat) (listed:Array Bool) (a:Act) (w:World),wpAny P .any ops Q fuel listed a w->wpAnyIn (Fence.wide.inRound l) m P .any ops Q fuel listed a w
 |0,listed,a,w,h=>h
 |fuel+1,listed,a,w,h=>⟨h.1,λi hi=>op_round hq (λo ho=>M o<|by have:=Array.mem_of_getElem? ho;simpa using this) (λa' w' h'=>any_round hq M fuel _ a' w' h')<|h.2 i hi⟩
theorem WR.drawn{id:Nat}{M:List Oper}(hm:P.follows .mixedOrders=true)(hq:∀a w,¬Q .outgrown a w)(hd:noDefer M=true)(h:A P κ N M.toArray Q M.toArray.size (Array.replicate M.toArray.size false) L I):WR P κ N l m (.region id M.toArray true) Q L I:=
 λa w ha hs=>wpIn_region_any hm (any_round (λ⟨a,w,h⟩=>hq a w h) (by simpa using noDefer_all hd) _ _ a _<|h a _ ha hs.drew)
end
end Go.Sl
