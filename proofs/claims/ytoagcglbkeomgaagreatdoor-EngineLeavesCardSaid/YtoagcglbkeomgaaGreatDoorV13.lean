/- A part of the proofs of statements of this seat: contracts of functions, and the plain laws that they lean on. No conditions. -/
import Derived.Test.YtoagcglbkeomgaaGreatDoorV12
set_option linter.unusedVariables false
set_option linter.unusedSimpArgs false
set_option linter.unusedSectionVars false
open Go.Proofs.Tryz (prog)
open List (replicate)
namespace Go.Sl
open Go.Proofs
set_option maxRecDepth 4000
variable{sup:List Int}{gone:List Bool}{i:Nat}{nd:Int}{va:Value}{es:List Pt}
attribute [local irreducible] W G V D A j8 Eff
theorem s5(h:e_ gone i=false)(M:K5 sup gone i<0\/e_ sup i<e_ sup (K5 sup gone i)):K5 sup gone (i+1)=(i:Int):=by
 conv=>lhs;unfold K5
 rw [B_ ⟨h,M⟩]
theorem z8(h:e_ gone i=true\/(¬K5 sup gone i<0/\¬e_ sup i<e_ sup (K5 sup gone i))):K5 sup gone (i+1)=K5 sup gone i:=by
 conv=>lhs;unfold K5
 rw [An]
 rintro ⟨M,h2⟩
 rcases h with h|h
 ·rw [h] at M;cases M
 exact h2.elim h.1 h.2
theorem az9{rs:List (G1 Pt)}{tri:List (List Pt)}(h:rs.map G1.xs=tri){i:Int}(h0:0<=i)(M:i<rs.length):(e_ rs i).xs=e_ tri i:=by
 subst h
 rw [bj9 h0 M,bj9 h0<|by rw [F_];exact M,Jj]
theorem aw1{p:Pt}(M:e_ gone p.u=false)(h2:e_ gone p.v=false):ba7 gone sup p=(sup.set p.u.toNat (e_ sup p.u - 1)).set p.v.toNat (e_ (sup.set p.u.toNat (e_ sup p.u - 1)) p.v - 1):=by
 unfold ba7;rw [B_ ⟨M,h2⟩]
theorem bm7{p:Pt}(h:e_ gone p.u=true\/e_ gone p.v=true):ba7 gone sup p=sup:=by
 unfold ba7;rw [An]
 rintro ⟨M,h2⟩
 rcases h with h|h
 ·rw [h] at M;cases M
 rw [h] at h2;cases h2
set_option maxHeartbeats 2000000 in
theorem fc5{κ:Ctx}{I:List Item}{nd:Int}{va:Value}{es:List Pt}(hl:Sl κ I va es)(hG:s6 nd es)(hb:es.length<=1000000)(hT:F4 κ I 0 p6):eu prog κ 130 [.agg #[e7 nd,va]] I (λr J=>∃a c a' c',r = .tuple #[.slice a (U3 (G2 nd es)).length c,.slice a' (ax9 (G2 nd es)).length c']/\J=vc 3 (.slice a (U3 (G2 nd es)).length c) (U3 (G2 nd es))::vc 3 (.slice a' (ax9 (G2 nd es)).length c') (ax9 (G2 nd es))::I):=by
 have bw:=hG.rng
 have a4:=av1 hG
 have b2:(G2 nd es).length=es.length:=F_ ..
 refine Ce1 Tryz.func130 C C ?_
 refine Ak<|Ge1 (Au (cs:=[_,_]) C C C) λb1=>Z ?_
 refine G.e (Ac c_ C C<|az0 (nd:=nd) (A4 hl) hG om<|A8 hT Ah) ?_
 rintro _ _ ⟨_,_,⟨aj,ak,M,rfl,a1,rfl⟩,rfl,rfl⟩
 have a8:M.length=(G2 nd es).length:=by rw [←a1,F_]
 refine Dq (J:=vc 198 (.slice aj M.length ak) (M)::e8 b1 [e7 nd,va] 38::(rgI M++I)) (Cj<|List.Perm.cons _<|C1 (A:=rgI M) (L:=[e8 b1 [e7 nd,va] 38]) (T:=I)) ?_
 show G prog κ _ _ _ _ ([(16,.slice aj M.length ak),(15,.agg #[e7 nd,va]),(3,.slice none 0 0),(2,.slice none 0 0),(1,.pointer<|some ⟨b1,0,none⟩),(0,.agg #[e7 nd,va])]:Env) (vc 198 (.slice aj M.length ak) (M)::e8 b1 [e7 nd,va] 38::(rgI M++I))
 refine Z ?_
 refine Ge2 (Dk (α:=Int) (n:=M.length) Ab ef C C C om om dc C) λaq ar=>Z ?_
 refine B9 (σ:=Nat×(List Int)) (λs=>([(2,.slice none 0 0),(4,.slice aj M.length ak),(5,e7 ((M.length:Nat):Int)),(6,.slice aq (replicate M.length (default:Int)).length ar),(21,.slice aj M.length ak),(22,e7 ((M.length:Nat):Int)),(23,e7 ((s.1:Nat):Int))]:Env)) (λs=>vc 3 (.slice aq (replicate M.length (default:Int)).length ar) (s.2)::vc 198 (.slice aj M.length ak) (M)::e8 b1 [e7 nd,va] 38::(rgI M++I)) (λs=>(s.1<=M.length)/\(s.2.length=M.length)/\(∀i:Nat,i<s.1->e_ s.2 i=(((e_ M i).xs.length:Nat):Int))) (λs=>M.length - s.1) (0,replicate M.length (default:Int)) (show ((0:Nat)<=M.length)/\((replicate M.length (default:Int):List Int).length=M.length)/\(∀i:Nat,i<(0:Nat)->e_ (replicate M.length (default:Int):List Int) (i:Int)=(((e_ M i).xs.length:Nat):Int)) from ⟨om,Fy,(λi h=>by omega)⟩) (Aa C<|Aa C<|Aa C<|Aa C<|Aa C<|Aa C<|Aa (Em C<|by first|omega|rfl|((try dsimp only);first|exact s5 (by simpa using aa) (by first|exact .inl ab|exact .inr ad)|exact (s5 (by simpa using aa)<|by first|exact .inl ab|exact .inr ad).symm|exact z8 (by first|(left;simpa using aa)|exact .inr ⟨ab,ad⟩)|exact (z8<|by first|(left;simpa using aa)|exact .inr ⟨ab,ad⟩).symm)) Bb) (show Fit κ _ (vc 3 (.slice aq (replicate M.length (default:Int)).length ar) ((replicate M.length (default:Int)))::vc 198 (.slice aj M.length ak) (M)::e8 b1 [e7 nd,va] 38::(rgI M++I)) from Ai) ?_
 rintro ⟨k,sup⟩ hp
 dsimp only at hp ⊢
 obtain ⟨hk,bj,bk⟩:=hp
 refine Z ?_
 refine Am C (λbq=>Z ?_)<|λbq=>Z ?_
 ·refine Ge0 (Cw (α:=Int) (xs:=sup) (e:=3) (new:=(((e_ M k).xs.length:Nat):Int)) ef C C C om oo am) (Z ?_)
  exact Bt ((k+1),(List.set sup ((k:Int)).toNat ((((e_ M k).xs.length:Nat):Int)))) (by dsimp only;exact ⟨om,(by rw [Fo];exact bj),(λi h=>by rw [Ei _ _ _ _ om om om];by_cases e:i=k;(· subst e;rw [B_ rfl]);(· rw [An om];exact bk i om))⟩) (hL:=(Aa C<|Aa C<|Aa C<|Aa C<|Aa C<|Aa C<|Aa (Em C<|by first|omega|rfl|((try dsimp only);first|exact s5 (by simpa using aa) (by first|exact .inl ab|exact .inr ad)|exact (s5 (by simpa using aa)<|by first|exact .inl ab|exact .inr ad).symm|exact z8 (by first|(left;simpa using aa)|exact .inr ⟨ab,ad⟩)|exact (z8<|by first|(left;simpa using aa)|exact .inr ⟨ab,ad⟩).symm)) Bb))
 have bi:sup=(U4<|G2 nd es).sup:=by refine fj8 (by rw [bj,a8];exact (F_ ..).symm) (λi hi=>?_);rw [bk i om,az9 a1 om om];show _=e_ ((G2 nd es).map λl=>(l.length:Int)) (i:Int);rw [Ct _ _ (show i<(G2 nd es).length by omega),Ct _ _<|by rw [F_];omega,Jj]
 refine Ge2 (Dk (α:=Bool) (n:=M.length) Tryz.underlying214 ty4 C C C om om dc C) λaw ax=>Z ?_
 refine Ge2 (Dk (α:=Int) (n:=M.length) Ab ef C C C om om dc C) λau ai=>Z ?_
 refine B9 (σ:=Nat×TrS×(Option Addr)×Nat) (λs=>([(2,.slice s.2.2.1 s.2.1.ord.length s.2.2.2),(3,.slice au (replicate M.length (default:Int)).length ai),(4,.slice aj M.length ak),(5,e7 ((M.length:Nat):Int)),(6,.slice aq (replicate M.length (default:Int)).length ar),(9,.slice aw (replicate M.length (default:Bool)).length ax),(10,e7<|s.2.1.k),(38,e7 ((M.length:Nat):Int)),(39,e7 ((s.1:Nat):Int))]:Env)) (λs=>vc 3 (.slice s.2.2.1 s.2.1.ord.length s.2.2.2) (s.2.1.ord)::vc 3 (.slice au (replicate M.length (default:Int)).length ai) (s.2.1.num)::vc 4 (.slice aw (replicate M.length (default:Bool)).length ax) (s.2.1.gone)::vc 3 (.slice aq (replicate M.length (default:Int)).length ar) (s.2.1.sup)::vc 198 (.slice aj M.length ak) (M)::e8 b1 [e7 nd,va] 38::(rgI M++I)) (λs=>(s.1<=M.length)/\(s.2.1=av5 (G2 nd es) s.1)/\(cp9 (nd.toNat - 1) (G2 nd es).length s.1 s.2.1)) (λs=>M.length - s.1) (0,(U4<|G2 nd es),none,0) (show ((0:Nat)<=M.length)/\(((U4<|G2 nd es):TrS)=av5 (G2 nd es) (0:Nat))/\(cp9 (nd.toNat - 1) (G2 nd es).length (0:Nat) ((U4<|G2 nd es):TrS)) from ⟨om,rfl,(cp9.start a4)⟩) (Aa (Db C<|by first|rfl|simp)<|Aa C<|Aa C<|Aa C<|Aa C<|Aa C<|Aa (Em C<|by first|omega|rfl|((try dsimp only);first|exact s5 (by simpa using aa) (by first|exact .inl ab|exact .inr ad)|exact (s5 (by simpa using aa)<|by first|exact .inl ab|exact .inr ad).symm|exact z8 (by first|(left;simpa using aa)|exact .inr ⟨ab,ad⟩)|exact (z8<|by first|(left;simpa using aa)|exact .inr ⟨ab,ad⟩).symm))<|Aa C<|Aa (Em C<|by first|omega|rfl|((try dsimp only);first|exact s5 (by simpa using aa) (by first|exact .inl ab|exact .inr ad)|exact (s5 (by simpa using aa)<|by first|exact .inl ab|exact .inr ad).symm|exact z8 (by first|(left;simpa using aa)|exact .inr ⟨ab,ad⟩)|exact (z8<|by first|(left;simpa using aa)|exact .inr ⟨ab,ad⟩).symm)) Bb) (show Fit κ _ (vc 3 (.slice none ((U4<|G2 nd es)).ord.length 0) (((U4<|G2 nd es)).ord)::vc 3 (.slice au (replicate M.length (default:Int)).length ai) (((U4<|G2 nd es)).num)::vc 4 (.slice aw (replicate M.length (default:Bool)).length ax) (((U4<|G2 nd es)).gone)::vc 3 (.slice aq (replicate M.length (default:Int)).length ar) (((U4<|G2 nd es)).sup)::vc 198 (.slice aj M.length ak) (M)::e8 b1 [e7 nd,va] 38::(rgI M++I)) from (by rw [←bi];exact A9 (B7 (α:=Int) _ _)<|by rw [a8];exact Az)) ?_
 rintro ⟨j,tr,ao,co⟩ hp
 dsimp only at hp ⊢
 obtain ⟨hj,bc,av⟩:=hp
 have bt:=av.gc7
 have bn:=av.fp1
 have cd:=av.fj4
 have b7:=av.ft9
 have b9:=av.k
 have b6:2*(((nd.toNat - 1:Nat)):Int)*(j:Int)<=126*(j:Int):=Int.mul_le_mul_of_nonneg_right om om
 refine Z ?_
 refine Am C (λbr=>Z ?_)<|λbr=>Z ?_
 ·refine B9 (σ:=Nat) (λs=>([(2,.slice ao tr.ord.length co),(3,.slice au (replicate M.length (default:Int)).length ai),(4,.slice aj M.length ak),(5,e7 ((M.length:Nat):Int)),(6,.slice aq (replicate M.length (default:Int)).length ar),(9,.slice aw (replicate M.length (default:Bool)).length ax),(10,e7<|tr.k),(11,e7<|K5 tr.sup tr.gone s),(38,e7 ((M.length:Nat):Int)),(39,e7<|(j:Int)),(41,e7 ((M.length:Nat):Int)),(42,e7 ((s:Nat):Int))]:Env)) (λs=>vc 3 (.slice ao tr.ord.length co) (tr.ord)::vc 3 (.slice au (replicate M.length (default:Int)).length ai) (tr.num)::vc 4 (.slice aw (replicate M.length (default:Bool)).length ax) (tr.gone)::vc 3 (.slice aq (replicate M.length (default:Int)).length ar) (tr.sup)::vc 198 (.slice aj M.length ak) (M)::e8 b1 [e7 nd,va] 38::(rgI M++I)) (λs=>(s<=M.length)) (λs=>M.length - s) 0 (show ((0:Nat)<=M.length) from om) (Aa C<|Aa C<|Aa C<|Aa C<|Aa C<|Aa C<|Aa C<|Aa (Em C<|by first|omega|rfl|((try dsimp only);first|exact s5 (by simpa using aa) (by first|exact .inl ab|exact .inr ad)|exact (s5 (by simpa using aa)<|by first|exact .inl ab|exact .inr ad).symm|exact z8 (by first|(left;simpa using aa)|exact .inr ⟨ab,ad⟩)|exact (z8<|by first|(left;simpa using aa)|exact .inr ⟨ab,ad⟩).symm))<|Aa C<|Aa C<|Aa C<|Aa (Em C<|by first|omega|rfl|((try dsimp only);first|exact s5 (by simpa using aa) (by first|exact .inl ab|exact .inr ad)|exact (s5 (by simpa using aa)<|by first|exact .inl ab|exact .inr ad).symm|exact z8 (by first|(left;simpa using aa)|exact .inr ⟨ab,ad⟩)|exact (z8<|by first|(left;simpa using aa)|exact .inr ⟨ab,ad⟩).symm)) Bb) (show Fit κ _ (vc 3 (.slice ao tr.ord.length co) (tr.ord)::vc 3 (.slice au (replicate M.length (default:Int)).length ai) (tr.num)::vc 4 (.slice aw (replicate M.length (default:Bool)).length ax) (tr.gone)::vc 3 (.slice aq (replicate M.length (default:Int)).length ar) (tr.sup)::vc 198 (.slice aj M.length ak) (M)::e8 b1 [e7 nd,va] 38::(rgI M++I)) from Ai) ?_
  rintro i2 hp
  have cf:=hp
  have cc:=bt4 tr.sup tr.gone i2
  refine Z ?_
  refine Am C (λbv=>Z ?_)<|λbv=>Z ?_
  ·refine Ba mixed (Bx (vc 3 (.slice ao tr.ord.length co) (tr.ord)::vc 3 (.slice au (replicate M.length (default:Int)).length ai) (tr.num)::vc 4 (.slice aw (replicate M.length (default:Bool)).length ax) (tr.gone)::vc 3 (.slice aq (replicate M.length (default:Int)).length ar) (tr.sup)::vc 198 (.slice aj M.length ak) (M)::e8 b1 [e7 nd,va] 38::(rgI M++I)) 20<|Z ?_)
   refine D.bk8 (d:=50) C (λaa=>?_)<|λaa=>?_
   ·refine Z ?_
    refine Dj (d:=53) C (λab=>Z ?_)<|λab=>?_
    ·exact Bt ((i2+1)) om (hL:=(Aa C<|Aa C<|Aa C<|Aa C<|Aa C<|Aa C<|Aa C<|Aa (Em C<|by first|omega|rfl|((try dsimp only);first|exact s5 (by simpa using aa) (by first|exact .inl ab|exact .inr ad)|exact (s5 (by simpa using aa)<|by first|exact .inl ab|exact .inr ad).symm|exact z8 (by first|(left;simpa using aa)|exact .inr ⟨ab,ad⟩)|exact (z8<|by first|(left;simpa using aa)|exact .inr ⟨ab,ad⟩).symm))<|Aa C<|Aa C<|Aa C<|Aa (Em C<|by first|omega|rfl|((try dsimp only);first|exact s5 (by simpa using aa) (by first|exact .inl ab|exact .inr ad)|exact (s5 (by simpa using aa)<|by first|exact .inl ab|exact .inr ad).symm|exact z8 (by first|(left;simpa using aa)|exact .inr ⟨ab,ad⟩)|exact (z8<|by first|(left;simpa using aa)|exact .inr ⟨ab,ad⟩).symm)) Bb))
    refine Dro 9 C (Aq C)<|Z ?_
    refine Am C (λad=>Z ?_)<|λad=>Z ?_
    ·exact Bt ((i2+1)) om (hL:=(Aa C<|Aa C<|Aa C<|Aa C<|Aa C<|Aa C<|Aa C<|Aa (Em C<|by first|omega|rfl|((try dsimp only);first|exact s5 (by simpa using aa) (by first|exact .inl ab|exact .inr ad)|exact (s5 (by simpa using aa)<|by first|exact .inl ab|exact .inr ad).symm|exact z8 (by first|(left;simpa using aa)|exact .inr ⟨ab,ad⟩)|exact (z8<|by first|(left;simpa using aa)|exact .inr ⟨ab,ad⟩).symm))<|Aa C<|Aa C<|Aa C<|Aa (Em C<|by first|omega|rfl|((try dsimp only);first|exact s5 (by simpa using aa) (by first|exact .inl ab|exact .inr ad)|exact (s5 (by simpa using aa)<|by first|exact .inl ab|exact .inr ad).symm|exact z8 (by first|(left;simpa using aa)|exact .inr ⟨ab,ad⟩)|exact (z8<|by first|(left;simpa using aa)|exact .inr ⟨ab,ad⟩).symm)) Bb))
    exact Bt ((i2+1)) om (hL:=(Aa C<|Aa C<|Aa C<|Aa C<|Aa C<|Aa C<|Aa C<|Aa (Em C<|by first|omega|rfl|((try dsimp only);first|exact s5 (by simpa using aa) (by first|exact .inl ab|exact .inr ad)|exact (s5 (by simpa using aa)<|by first|exact .inl ab|exact .inr ad).symm|exact z8 (by first|(left;simpa using aa)|exact .inr ⟨ab,ad⟩)|exact (z8<|by first|(left;simpa using aa)|exact .inr ⟨ab,ad⟩).symm))<|Aa C<|Aa C<|Aa C<|Aa (Em C<|by first|omega|rfl|((try dsimp only);first|exact s5 (by simpa using aa) (by first|exact .inl ab|exact .inr ad)|exact (s5 (by simpa using aa)<|by first|exact .inl ab|exact .inr ad).symm|exact z8 (by first|(left;simpa using aa)|exact .inr ⟨ab,ad⟩)|exact (z8<|by first|(left;simpa using aa)|exact .inr ⟨ab,ad⟩).symm)) Bb))
   refine Dpo 6 C<|Z ?_
   exact Bt ((i2+1)) om (hL:=(Aa C<|Aa C<|Aa C<|Aa C<|Aa C<|Aa C<|Aa C<|Aa (Em C<|by first|omega|rfl|((try dsimp only);first|exact s5 (by simpa using aa) (by first|exact .inl ab|exact .inr ad)|exact (s5 (by simpa using aa)<|by first|exact .inl ab|exact .inr ad).symm|exact z8 (by first|(left;simpa using aa)|exact .inr ⟨ab,ad⟩)|exact (z8<|by first|(left;simpa using aa)|exact .inr ⟨ab,ad⟩).symm))<|Aa C<|Aa C<|Aa C<|Aa (Em C<|by first|omega|rfl|((try dsimp only);first|exact s5 (by simpa using aa) (by first|exact .inl ab|exact .inr ad)|exact (s5 (by simpa using aa)<|by first|exact .inl ab|exact .inr ad).symm|exact z8 (by first|(left;simpa using aa)|exact .inr ⟨ab,ad⟩)|exact (z8<|by first|(left;simpa using aa)|exact .inr ⟨ab,ad⟩).symm)) Bb))
  obtain ⟨b,bg⟩:∃b,K5 tr.sup tr.gone i2=b:=⟨_,rfl⟩
  have be:K5 tr.sup tr.gone (G2 nd es).length=b:=by rw [←bg,show i2=(G2 nd es).length by omega]
  have a5:=av.gd6 om
  rw [be] at a5
  rw [bg]
  have b8:=av.sup _ (Bp (xs:=tr.sup) (i:=b) a5.1 om)
  refine Z ?_
  have bp:(if tr.k<(e_ tr.sup b) then (e_ tr.sup b) else tr.k)=(max tr.k<|e_ tr.sup b):=by split<;>omega
  rw [bp]
  refine Z ?_
  refine Ge0 (Cw (α:=Int) (xs:=tr.num) (e:=3) (new:=(max tr.k<|e_ tr.sup b)) ef C C C om oo am)<|Z ?_
  refine Ge0 (Cw (α:=Bool) (xs:=tr.gone) (e:=4) (new:=true) ty4 C C C om oo am)<|Z ?_
  refine Ge1 (B2 (α:=Int) (cs:=[_]) (xs:=[b]) Ab ef C C dc dc C C C C) λba=>?_
  refine Ge2 (Br (α:=Int) (e:=3) (xs:=tr.ord) (ys:=([b]:List Int)) Ab ef C C C mm A5 lcn dc C<|λ_ _=>am) λa3 a0=>Z ?_
  refine B9 (σ:=Nat×(List Int)) (λs=>([(2,.slice a3 (tr.ord++([b]:List Int)).length a0),(3,.slice au (replicate M.length (default:Int)).length ai),(4,.slice aj M.length ak),(5,e7 ((M.length:Nat):Int)),(6,.slice aq (replicate M.length (default:Int)).length ar),(9,.slice aw (replicate M.length (default:Bool)).length ax),(10,e7<|(max tr.k<|e_ tr.sup b)),(38,e7 ((M.length:Nat):Int)),(39,e7 ((j:Nat):Int)),(87,.slice (e_ M b).a (e_ M b).xs.length (e_ M b).c),(88,e7<|(((e_ M b).xs.length:Nat):Int)),(89,e7 ((s.1:Nat):Int))]:Env)) (λs=>vc 3 (.slice ba 1 1) (([b]:List Int))::vc 3 (.slice a3 (tr.ord++([b]:List Int)).length a0) (tr.ord++([b]:List Int))::vc 3 (.slice au (replicate M.length (default:Int)).length ai) (List.set tr.num (b).toNat ((max tr.k<|e_ tr.sup b)))::vc 4 (.slice aw (replicate M.length (default:Bool)).length ax) (List.set tr.gone (b).toNat (true))::vc 3 (.slice aq (replicate M.length (default:Int)).length ar) (s.2)::vc 198 (.slice aj M.length ak) (M)::e8 b1 [e7 nd,va] 38::(rgI M++I)) (λs=>(s.1<=(e_ M b).xs.length)/\(s.2=((e_ M b).xs.take s.1).foldl (ba7<|List.set tr.gone (b).toNat (true)) tr.sup)/\(s.2.length=(G2 nd es).length)/\(∀x∈s.2, -(126*((j:Nat):Int)) - 2*((s.1:Nat):Int)<=x/\x<=64)) (λs=>(e_ M b).xs.length - s.1) (0,tr.sup) (show ((0:Nat)<=(e_ M b).xs.length)/\((tr.sup:List Int)=((e_ M b).xs.take (0:Nat)).foldl (ba7<|List.set tr.gone (b).toNat (true)) tr.sup)/\((tr.sup:List Int).length=(G2 nd es).length)/\(∀x∈(tr.sup:List Int), -(126*((j:Nat):Int)) - 2*(((0:Nat):Nat):Int)<=x/\x<=64) from ⟨om,rfl,bt,(λx hx=>by have:=av.sup x hx;omega)⟩) (Aa C<|Aa C<|Aa C<|Aa C<|Aa C<|Aa C<|Aa C<|Aa C<|Aa C<|Aa C<|Aa C<|Aa (Em C<|by first|omega|rfl|((try dsimp only);first|exact s5 (by simpa using aa) (by first|exact .inl ab|exact .inr ad)|exact (s5 (by simpa using aa)<|by first|exact .inl ab|exact .inr ad).symm|exact z8 (by first|(left;simpa using aa)|exact .inr ⟨ab,ad⟩)|exact (z8<|by first|(left;simpa using aa)|exact .inr ⟨ab,ad⟩).symm)) Bb) (show Fit κ _ (vc 3 (.slice ba 1 1) (([b]:List Int))::vc 3 (.slice a3 (tr.ord++([b]:List Int)).length a0) (tr.ord++([b]:List Int))::vc 3 (.slice au (replicate M.length (default:Int)).length ai) (List.set tr.num (b).toNat ((max tr.k<|e_ tr.sup b)))::vc 4 (.slice aw (replicate M.length (default:Bool)).length ax) (List.set tr.gone (b).toNat (true))::vc 3 (.slice aq (replicate M.length (default:Int)).length ar) ((tr.sup))::vc 198 (.slice aj M.length ak) (M)::e8 b1 [e7 nd,va] 38::(rgI M++I)) from Ai) ?_
  rintro ⟨q,ae⟩ hp
  dsimp only at hp ⊢
  obtain ⟨hq,a9,ay,a6⟩:=hp
  have bf:(e_ M b).xs∈(G2 nd es):=by rw [az9 a1 a5.1 om];exact Bp a5.1 a5.2.1
  have ca:=a4.len _ bf
  have b3:(List.set tr.gone (b).toNat (true)).length=(G2 nd es).length:=by rw [Fo];exact bn
  have a7:q<(e_ M b).xs.length->0<=(e_ (e_ M b).xs (q:Int)).u/\(e_ (e_ M b).xs (q:Int)).u<(G2 nd es).length/\0<=(e_ (e_ M b).xs (q:Int)).v/\(e_ (e_ M b).xs (q:Int)).v<(G2 nd es).length:=λh=>a4.rng _ bf _ (Bp om om)
  refine Z ?_
  refine Am C (λbu=>Z ?_)<|λbu=>Z ?_
  ·refine Gr (A2 (α:=Pt) (xs:=(e_ M b).xs) Bw L8 C C (Cz<|by repeat (first|exact an9 (rs:=M) (i:=b) om om|apply C_)) om oo) (Gr (C6 (α:=Pt) (xs:=(e_ M b).xs) L8 C (Cz<|by repeat (first|exact an9 (rs:=M) (i:=b) om om|apply C_)) om oo) ?_)
   have b4:=a7 om
   have ce:=a6 _ (Bp (xs:=ae) (i:=(e_ (e_ M b).xs (q:Int)).u) om om)
   refine Ge1 (Aj L8 C) λcb=>Ge0 (Cs L8)<|Z ?_
   refine Gr (B5 B8 ty2 C C om om)<|Z ?_
   refine G.bk8 (d:=99) C (λap=>?_)<|λap=>Z ?_
   ·refine e9 (Aq C) (e9 (B5 B8 ty2 C C om om)<|Z ?_)
    refine Dp C (λah=>?_)<|λah=>Z ?_
    ·refine Ak (Gm C<|Gr (B5 B8 ty2 C C om om)<|Z ?_)
     refine Ge0 (Cw (α:=Int) (xs:=ae) (e:=3) (new:=(e_ ae<|(e_ ((e_ M b).xs) (q:Int)).u) - 1) ef C C C om oo am) ?_
     have b5 : -(126*(j:Int)) - 2*(q:Int) - 1<=e_ (List.set ae ((e_ ((e_ M b).xs) (q:Int)).u).toNat ((e_ ae<|(e_ ((e_ M b).xs) (q:Int)).u) - 1)) (e_ (e_ M b).xs (q:Int)).v/\e_ (List.set ae ((e_ ((e_ M b).xs) (q:Int)).u).toNat ((e_ ae<|(e_ ((e_ M b).xs) (q:Int)).u) - 1)) (e_ (e_ M b).xs (q:Int)).v<=64:=by rw [Ei _ _ _ _ om om om];have:=a6 _ (Bp (xs:=ae) (i:=(e_ (e_ M b).xs (q:Int)).v) om om);split<;>omega
     refine Z ?_
     refine Gr (B5 B8 ty2 C C om om)<|Z ?_
     refine Ge0 (Cw (α:=Int) (xs:=List.set ae ((e_ ((e_ M b).xs) (q:Int)).u).toNat ((e_ ae<|(e_ ((e_ M b).xs) (q:Int)).u) - 1)) (e:=3) (new:=(e_ (List.set ae ((e_ ((e_ M b).xs) (q:Int)).u).toNat ((e_ ae<|(e_ ((e_ M b).xs) (q:Int)).u) - 1))<|(e_ ((e_ M b).xs) (q:Int)).v) - 1) ef C C C om oo am)<|Z ?_
     have az:((e_ M b).xs.take (q+1)).foldl (ba7<|List.set tr.gone (b).toNat (true)) tr.sup=ba7 (List.set tr.gone (b).toNat (true)) ae (e_ (e_ M b).xs (q:Int)):=by rw [Ca _ q om,Hd,←a9];rfl
     have an:=ba6 (gone:=(List.set tr.gone (b).toNat (true))) (p:=(e_ (e_ M b).xs (q:Int))) (by have:=a7 om;omega) a6
     have bh:=ar9 (List.set tr.gone (b).toNat (true)) ae (e_ (e_ M b).xs (q:Int))
     exact Bt ((q+1),(List.set (List.set ae ((e_ ((e_ M b).xs) (q:Int)).u).toNat ((e_ ae<|(e_ ((e_ M b).xs) (q:Int)).u) - 1)) ((e_ ((e_ M b).xs) (q:Int)).v).toNat ((e_ (List.set ae ((e_ ((e_ M b).xs) (q:Int)).u).toNat ((e_ ae<|(e_ ((e_ M b).xs) (q:Int)).u) - 1))<|(e_ ((e_ M b).xs) (q:Int)).v) - 1))) (by dsimp only;exact ⟨om,(by rw [az];first|exact (aw1 (by simpa using ap)<|by simpa using ah).symm|exact (bm7<|by first|(left;simpa using ap)|(right;simpa using ah)).symm),(by first|exact ay|(simp only [Fo];exact ay)),(by first|(rw [aw1 (by simpa using ap) (by simpa using ah)] at an;exact λx hx=>by have:=an x hx;push_cast;omega)|(rw [bm7 (by first|(left;simpa using ap)|(right;simpa using ah))] at an;exact λx hx=>by have:=an x hx;push_cast;omega))⟩) (hL:=(Aa C<|Aa C<|Aa C<|Aa C<|Aa C<|Aa C<|Aa C<|Aa C<|Aa C<|Aa C<|Aa C<|Aa (Em C<|by first|omega|rfl|((try dsimp only);first|exact s5 (by simpa using aa) (by first|exact .inl ab|exact .inr ad)|exact (s5 (by simpa using aa)<|by first|exact .inl ab|exact .inr ad).symm|exact z8 (by first|(left;simpa using aa)|exact .inr ⟨ab,ad⟩)|exact (z8<|by first|(left;simpa using aa)|exact .inr ⟨ab,ad⟩).symm)) Bb))
    have az:((e_ M b).xs.take (q+1)).foldl (ba7<|List.set tr.gone (b).toNat (true)) tr.sup=ba7 (List.set tr.gone (b).toNat (true)) ae (e_ (e_ M b).xs (q:Int)):=by rw [Ca _ q om,Hd,←a9];rfl
    have an:=ba6 (gone:=(List.set tr.gone (b).toNat (true))) (p:=(e_ (e_ M b).xs (q:Int))) (by have:=a7 om;omega) a6
    have bh:=ar9 (List.set tr.gone (b).toNat (true)) ae (e_ (e_ M b).xs (q:Int))
    exact Bt ((q+1),(ae)) (by dsimp only;exact ⟨om,(by rw [az];first|exact (aw1 (by simpa using ap)<|by simpa using ah).symm|exact (bm7<|by first|(left;simpa using ap)|(right;simpa using ah)).symm),(by first|exact ay|(simp only [Fo];exact ay)),(by first|(rw [aw1 (by simpa using ap) (by simpa using ah)] at an;exact λx hx=>by have:=an x hx;push_cast;omega)|(rw [bm7 (by first|(left;simpa using ap)|(right;simpa using ah))] at an;exact λx hx=>by have:=an x hx;push_cast;omega))⟩) (hL:=(Aa C<|Aa C<|Aa C<|Aa C<|Aa C<|Aa C<|Aa C<|Aa C<|Aa C<|Aa C<|Aa C<|Aa (Em C<|by first|omega|rfl|((try dsimp only);first|exact s5 (by simpa using aa) (by first|exact .inl ab|exact .inr ad)|exact (s5 (by simpa using aa)<|by first|exact .inl ab|exact .inr ad).symm|exact z8 (by first|(left;simpa using aa)|exact .inr ⟨ab,ad⟩)|exact (z8<|by first|(left;simpa using aa)|exact .inr ⟨ab,ad⟩).symm)) Bb))
   have az:((e_ M b).xs.take (q+1)).foldl (ba7<|List.set tr.gone (b).toNat (true)) tr.sup=ba7 (List.set tr.gone (b).toNat (true)) ae (e_ (e_ M b).xs (q:Int)):=by rw [Ca _ q om,Hd,←a9];rfl
   have an:=ba6 (gone:=(List.set tr.gone (b).toNat (true))) (p:=(e_ (e_ M b).xs (q:Int))) (by have:=a7 om;omega) a6
   have bh:=ar9 (List.set tr.gone (b).toNat (true)) ae (e_ (e_ M b).xs (q:Int))
   exact Bt ((q+1),(ae)) (by dsimp only;exact ⟨om,(by rw [az];first|exact (aw1 (by simpa using ap)<|by simpa using ah).symm|exact (bm7<|by first|(left;simpa using ap)|(right;simpa using ah)).symm),(by first|exact ay|(simp only [Fo];exact ay)),(by first|(rw [aw1 (by simpa using ap) (by simpa using ah)] at an;exact λx hx=>by have:=an x hx;push_cast;omega)|(rw [bm7 (by first|(left;simpa using ap)|(right;simpa using ah))] at an;exact λx hx=>by have:=an x hx;push_cast;omega))⟩) (hL:=(Aa C<|Aa C<|Aa C<|Aa C<|Aa C<|Aa C<|Aa C<|Aa C<|Aa C<|Aa C<|Aa C<|Aa (Em C<|by first|omega|rfl|((try dsimp only);first|exact s5 (by simpa using aa) (by first|exact .inl ab|exact .inr ad)|exact (s5 (by simpa using aa)<|by first|exact .inl ab|exact .inr ad).symm|exact z8 (by first|(left;simpa using aa)|exact .inr ⟨ab,ad⟩)|exact (z8<|by first|(left;simpa using aa)|exact .inr ⟨ab,ad⟩).symm)) Bb))
  have bb:(TrS.mk ae (List.set tr.gone (b).toNat (true)) (List.set tr.num (b).toNat (max tr.k<|e_ tr.sup b)) (tr.ord++[b])<|max tr.k<|e_ tr.sup b)=aq6 (G2 nd es) tr:=by unfold aq6;rw [be,a9,Fv om,az9 a1 a5.1 om]
  exact Bt ((j+1),((TrS.mk ae (List.set tr.gone (b).toNat (true)) (List.set tr.num (b).toNat (max tr.k<|e_ tr.sup b)) (tr.ord++[b])<|max tr.k<|e_ tr.sup b)),(a3),(a0)) (by dsimp only;exact ⟨om,(by rw [bb,bc];rfl),(by rw [bb];exact av.step a4 om)⟩) (hL:=(Aa (Db C<|by first|rfl|simp)<|Aa C<|Aa C<|Aa C<|Aa C<|Aa C<|Aa (Em C<|by first|omega|rfl|((try dsimp only);first|exact s5 (by simpa using aa) (by first|exact .inl ab|exact .inr ad)|exact (s5 (by simpa using aa)<|by first|exact .inl ab|exact .inr ad).symm|exact z8 (by first|(left;simpa using aa)|exact .inr ⟨ab,ad⟩)|exact (z8<|by first|(left;simpa using aa)|exact .inr ⟨ab,ad⟩).symm))<|Aa C<|Aa (Em C<|by first|omega|rfl|((try dsimp only);first|exact s5 (by simpa using aa) (by first|exact .inl ab|exact .inr ad)|exact (s5 (by simpa using aa)<|by first|exact .inl ab|exact .inr ad).symm|exact z8 (by first|(left;simpa using aa)|exact .inr ⟨ab,ad⟩)|exact (z8<|by first|(left;simpa using aa)|exact .inr ⟨ab,ad⟩).symm)) Bb))
 have bo:j=(G2 nd es).length:=by omega
 subst bo
 subst bc
 have bm:=av.fj4
 exact C3 C C C (vc 3 (.slice ao (U3<|G2 nd es).length co) (U3<|G2 nd es)::vc 3 (.slice au (ax9<|G2 nd es).length ai) (ax9<|G2 nd es)::I) (by show Fit κ _ (vc 3 _ _::vc 3 (.slice _ (av5 (G2 nd es) (G2 nd es).length).num.length _) (av5 (G2 nd es) (G2 nd es).length).num::I);rw [bm];simp only [Fy,a8];exact Az) ⟨ao,co,au,ai,by show _=Value.tuple #[_,.slice _ (av5 (G2 nd es) (G2 nd es).length).num.length _];rw [bm];simp only [Fy,a8];rfl,rfl⟩
def j6(nd:Int)(es:List Pt):List Int:=if F6 nd es≠0 then [] else ax9 (G2 nd es)
theorem db6(hG:s6 nd es)(h1:1<=nd):∀x∈j6 nd es,0<=x/\x<=nd - 1:=λx M=>by
 unfold j6 at M
 rw [An (λh=>h<|s4.2 hG)] at M
 have:=(bv5<|av1 hG).2 x M
 omega
theorem bh5{κ:Ctx}{I:List Item}(hl:Sl κ I va es)(hb:es.length<=1000000)(hT:F4 κ I 0 p6):eu prog κ 85 [.agg #[e7 nd,va]] I (λr J=>∃a c,r = .tuple #[.slice a (j6 nd es).length c,e7 (F6 nd es)]/\J=vk 3 a c (j6 nd es)::I):=by
 refine Ce1 Tryz.func85 C C ?_
 refine Ak<|Ge1 (Au (cs:=[_,_]) C C C) λb1=>Z ?_
 refine Gc0 (Ac c_ C C<|V1<|A4 hl)<|Z ?_
 refine Am C (λc10=>Z ?_)<|λc10=>Z ?_
 ·have hX:(j6 nd es)=[]:=B_ c10
  exact C3 C C C (vk 3 none 0 (j6 nd es)::I) (by unfold vk;rw [hX];exact A9 (show Fit κ _ I from Ah)<|B7 (α:=Int) _ _) ⟨none,0,by rw [hX];rfl,rfl⟩
 refine G.e (Ac c_ C C<|fc5 (nd:=nd) (A4 hl) (s4.1<|Ft.1 c10) om<|A8 hT Ah) ?_
 rintro _ _ ⟨_,_,⟨ad,ab,M,aa,rfl,rfl⟩,rfl,rfl⟩
 refine Z ?_
 have hX:(j6 nd es)=_:=An c10
 have hz:F6 nd es=0:=Ft.1 c10
 exact C3 C C C (vk 3 M aa (j6 nd es)::I) (by unfold vk;rw [hX];exact Ai) ⟨M,aa,by rw [hX,hz]<;>rfl,rfl⟩
variable {κ:Ctx}{I:List Item}
theorem br4(es:List Pt)(v:Int):(nbL es v).length<=2*es.length:=by
 induction es with
 |nil=>simp [nbL]
 |cons e es ih=>
  have e1:nbL (e::es) v=((if e.u=v then [e.v] else [])++(if e.v=v then [e.u] else []))++nbL es v:=rfl
  rw [e1,By,By,E_]
  have M:(if e.u=v then [e.v] else ([]:List Int)).length<=1:=by split<;>simp
  have h2:(if e.v=v then [e.u] else ([]:List Int)).length<=1:=by split<;>simp
  omega
theorem ae9(hl:Sl κ I va es)(v:Int)(hb:es.length<=1000000):eu prog κ 101 [.agg #[e7 nd,va],e7 v] I (λr J=>∃a c,r = .slice a (nbG nd es v).length c/\J=vk 3 a c (nbG nd es v)::I):=by
 refine Bv hl.le λaq=>?_
 refine Ce2 Tryz.func101 C C ?_
 refine Ak<|Ge1 (Au (cs:=[_,_]) C C C) λb1=>Z ?_
 refine G.e (Ac c_ C C<|V2 (nd:=nd)<|A4 hl) ?_
 rintro _ _ ⟨_,_,⟨rfl,rfl⟩,rfl,rfl⟩
 refine Z ?_
 refine Am C (λc10=>Z ?_)<|λc10=>Z ?_
 ·have hX:(nbG nd es v)=[]:=B_ c10
  exact Al C C (vk 3 none 0 (nbG nd es v)::I) (by unfold vk;rw [hX];exact A9 (show Fit κ _ I from Ah)<|B7 (α:=Int) _ _) ⟨none,0,by rw [hX];rfl,rfl⟩
 refine Dh (σ:=Nat×(Option Addr)×Nat×(List Int)) (λs=>[(5,.slice s.2.1 s.2.2.2.length s.2.2.1),(14,e7 ((s.1:Nat):Int))]) (λs=>[vk 3 s.2.1 s.2.2.1 s.2.2.2]) (λs=>(s.1<=es.length)/\(s.2.2.2=nbL (es.take s.1) v)) (λs=>es.length - s.1) (0,none,0,[]) (show ((0:Nat)<=es.length)/\(([]:List Int)=nbL (es.take (0:Nat)) v) from ⟨om,rfl⟩) (hI:=(B7 _ _)) ?_
 rintro ⟨k,a,c,out⟩ hp
 dsimp only at hp ⊢
 obtain ⟨hk,ho⟩:=hp
 have av:out.length<=2*es.length:=by rw [ho];refine G_ (br4 _ _) ?_;simp only [Fp];omega
 refine Z ?_
 refine Am C (λap=>Z ?_)<|λap=>Z ?_
 ·refine Ge1 (Aj s8 C) λb2=>Ge0 (Cs s8) (Z ?_)
  refine Am C (λaa=>Z ?_)<|λaa=>Z ?_
  ·refine Ge1 (B2 (α:=Int) (cs:=[_]) (xs:=[(e_ es k).v]) Ab ef C C dc dc C C C C) λar=>?_
   refine Ge2 (Br (α:=Int) (e:=3) (xs:=out) (ys:=([(e_ es k).v]:List Int)) Ab ef C C C mm A5 lap dc C<|λ_ _=>am) λai aj=>Z ?_
   refine Am C (λM=>Z ?_)<|λM=>Z ?_
   ·refine Ge1 (B2 (α:=Int) (cs:=[_]) (xs:=[(e_ es k).u]) Ab ef C C dc dc C C C C) λau=>?_
    refine Ge2 (Br (α:=Int) (e:=3) (xs:=out++([(e_ es k).v]:List Int)) (ys:=([(e_ es k).u]:List Int)) Ab ef C C C mm A5 lap dc C<|λ_ _=>am) λao an=>Z ?_
    exact Bt ((k+1),(ao),(an),((out++([(e_ es k).v]:List Int))++([(e_ es k).u]:List Int)))<|by dsimp only;exact ⟨om,(by rw [ar5 om,←ho];(first|rw [B_ aa,B_ M]|rw [B_ aa,An M]|rw [An aa,B_ M]|rw [An aa,An M])<;>simp)⟩
   exact Bt ((k+1),(ai),(aj),(out++([(e_ es k).v]:List Int)))<|by dsimp only;exact ⟨om,(by rw [ar5 om,←ho];(first|rw [B_ aa,B_ M]|rw [B_ aa,An M]|rw [An aa,B_ M]|rw [An aa,An M])<;>simp)⟩
  refine Am C (λM=>Z ?_)<|λM=>Z ?_
  ·refine Ge1 (B2 (α:=Int) (cs:=[_]) (xs:=[(e_ es k).u]) Ab ef C C dc dc C C C C) λaw=>?_
   refine Ge2 (Br (α:=Int) (e:=3) (xs:=out) (ys:=([(e_ es k).u]:List Int)) Ab ef C C C mm A5 lap dc C<|λ_ _=>am) λah ae=>Z ?_
   exact Bt ((k+1),(ah),(ae),(out++([(e_ es k).u]:List Int)))<|by dsimp only;exact ⟨om,(by rw [ar5 om,←ho];(first|rw [B_ aa,B_ M]|rw [B_ aa,An M]|rw [An aa,B_ M]|rw [An aa,An M])<;>simp)⟩
  exact Bt ((k+1),(a),(c),(out))<|by dsimp only;exact ⟨om,(by rw [ar5 om,←ho];(first|rw [B_ aa,B_ M]|rw [B_ aa,An M]|rw [An aa,B_ M]|rw [An aa,An M])<;>simp)⟩
 refine Gc2 (Ac c_ C C<|fs7 A5 om) λad ab=>Z ?_
 have ak:out=nbL es v:=by rw [ho,Fv om]
 subst ak
 have hX:nbG nd es v=ofL (nbL es v):=An c10
 exact Al C C (vk 3 ad ab (nbG nd es v)::I) (by unfold vk;rw [hX];exact Ai) ⟨ad,ab,by rw [hX],rfl⟩
theorem ci6(hl:Sl κ I va es)(v:Int)(hb:es.length<=1000000):eu prog κ 183 [.agg #[e7 nd,va],e7 v] I (λr J=>r=e7 ((((nbG nd es v).length:Nat)):Int)/\I=J):=by
 refine Ce2 Tryz.func183 C C ?_
 refine Ak<|Ge1 (Au (cs:=[_,_]) C C C) λb1=>Z ?_
 refine G.e (Ac c_ C C<|ae9 (nd:=nd) (A4 hl) v om) ?_
 rintro _ _ ⟨_,_,⟨aa,ab,rfl,rfl⟩,rfl,rfl⟩
 have M:=J9 nd es v
 refine Z ?_
 exact Al C C I Ah ⟨rfl,rfl⟩
theorem ag7(hl:Sl κ I va es)(u v:Int)(hb:es.length<=1000000):eu prog κ 105 [.agg #[e7 nd,va],e7 u,e7 v] I (λr J=>∃a c,r = .slice a (j3 nd es u v).length c/\J=vk 3 a c (j3 nd es u v)::I):=by
 refine Ce3 Tryz.func105 C C ?_
 refine Ak<|Ge1 (Au (cs:=[_,_]) C C C) λb1=>Z ?_
 refine Am C (λc9=>Z ?_)<|λc9=>Z ?_
 ·have hX:(j3 nd es u v)=[]:=B_ c9
  exact Al C C (vk 3 none 0 (j3 nd es u v)::I) (by unfold vk;rw [hX];exact A9 (show Fit κ _ I from Ah)<|B7 (α:=Int) _ _) ⟨none,0,by rw [hX];rfl,rfl⟩
 refine Ba mixed<|Bx (e8 b1 [e7 nd,va] 38::I) 8<|Z ?_
 refine Ds1 2<|Se C (Ac c_ C C<|ae9 (nd:=nd) (A4 hl) u om) ?_
 rintro _ _ ⟨_,_,⟨aj,ae,rfl,rfl⟩,rfl,rfl⟩
 refine ⟨Ai,?_⟩
 have ab:=J9 nd es u
 refine Ds1 5<|Se C (Ac c_ C C<|ae9 (nd:=nd) (A4 hl) v om) ?_
 rintro _ _ ⟨_,_,⟨ah,ai,rfl,rfl⟩,rfl,rfl⟩
 refine ⟨Ai,?_⟩
 have ad:=J9 nd es v
 refine Ds1 6<|Se C (Ac c_ C C<|dq7 A5 A5<|by have:=J9 nd es u;omega) ?_
 rintro _ _ ⟨_,_,⟨M,aa,rfl,rfl⟩,rfl,rfl⟩
 refine ⟨Ai,?_⟩
 refine Z ?_
 have hX:(j3 nd es u v)=_:=An c9
 exact Al C C (vk 3 M aa (j3 nd es u v)::I) (by unfold vk;rw [hX];exact Ai) ⟨M,aa,by rw [hX],rfl⟩
theorem ax5(hl:Sl κ I va es)(u v:Int):eu prog κ 106 [.agg #[e7 nd,va],e7 u,e7 v] I (λr J=>∃y:Int,r=e7 y/\au1 nd es u v y/\I=J):=by
 refine Bv hl.le λab=>?_
 refine Ce3 Tryz.func106 C C ?_
 refine Ak<|Ge1 (Au (cs:=[_,_]) C C C) λb1=>Z ?_
 refine G.e (Ac c_ C C<|V2 (nd:=nd)<|A4 hl) ?_
 rintro _ _ ⟨_,_,⟨rfl,rfl⟩,rfl,rfl⟩
 refine Z ?_
 refine Am C (λc11=>Z ?_)<|λc11=>Z ?_
 ·exact Al C C I Ah ⟨_,rfl,.inr ⟨rfl,.inl c11⟩,rfl⟩
 refine Dh (σ:=Nat) (λs=>[(15,e7 ((s:Nat):Int))]) (λ_=>[]) (λs=>(s<=es.length)/\(∀j,j<s->e_ es j≠j4 u v)) (λs=>es.length - s) 0 (show ((0:Nat)<=es.length)/\(∀j,j<(0:Nat)->e_ es j≠j4 u v) from ⟨om,E8⟩) ?_
 rintro k hp
 obtain ⟨hk,hn⟩:=hp
 refine Z ?_
 refine Am C (λaa=>Z ?_)<|λaa=>Z ?_
 ·refine Ge1 (Aj s8 C) λb2=>Ga C (Ge0 (Cs s8) ?_)
  refine Ar<|Ax<|Ba mixed<|Bx (e8 b2 [e7 ((e_ es k).u),e7<|(e_ es k).v] 105::e8 b1 [e7 nd,va] 38::I) 5<|Z ?_
  refine Ds1 3<|Sc0 C (Ac c_ C C<|dr7 u v) ?_
  refine Dr 4 C (j8.fu1 (α:=Pt) (a:=(e_ es k)) (b:=(j4 u v)) ay7 C C)<|Z ?_
  refine Am C (λM=>Z ?_)<|λM=>Z ?_
  ·exact Al C C I Ah ⟨_,rfl,.inl ⟨Ft.1 c11,k,rfl,by omega,M⟩,rfl⟩
  exact Bt ((k+1)) ⟨om,(Di hn M)⟩
 have hm:j4 u v∉es:=av8 hn om
 exact Al C C I Ah ⟨_,rfl,.inr ⟨rfl,.inr hm⟩,rfl⟩
end Go.Sl
namespace Go.Sl
open Go.Proofs
set_option maxRecDepth 4000
end Go.Sl
namespace Go.Sl
end Go.Sl
namespace Go.Sl
end Go.Sl
namespace Go.Sl
open Go.Proofs
set_option maxRecDepth 4000
end Go.Sl
namespace Go.Sl
end Go.Sl
namespace Go.Sl
open Go.Proofs
set_option maxRecDepth 4000
variable{b:Nat}{lv:Value}{ls:List Int}{i:Int}
variable {κ:Ctx}{I:List Item}
attribute [local irreducible] W G V D A j8 Eff
theorem bk3(hl:∀q,Sl κ (ap5 b lv q::I) lv ls)(h0:0<=i)   :
    eu prog κ 15 [(pt b)] (e8 b [lv,e7 i] 85::I) (λr J=>∃y:Int×Int×Int×Int,((r = .agg #[e7 y.1,e7 y.2.1,e7 y.2.2.1]/\s7 y.1 y.2.1 y.2.2.1=0)/\0<=y.2.2.2)/\J=[]++ap5 b lv y.2.2.2::I):=by
 refine Ce1 Tryz.func15 C C ?_
 refine Ak<|Ge1 (Aj da5 C) λb1=>Z ?_
 refine G.e (Ac c_ C C<|Q1 ta1 (Bg (hl _) Ah) om om) ?_
 rintro _ _ ⟨_,_,⟨M,i3,rfl,aa,hi3,rfl⟩,rfl,rfl⟩
 show G prog κ _ _ _ _ ([(4,e7 M),(3,pt b),(2,pt b1),(0,pt b)]:Env) (e8 b1 [e7 0,e7 0,e7 0] 29::e8 b [lv,e7 i3] 85::I)
 refine Z ?_
 refine Am C (λc5=>?_)<|λc5=>Z ?_
 ·refine Ak (Gm C<|G.e (Ac c_ C C<|Q1 ta1 (Bg (hl _) Ah) om om) ?_)
  rintro _ _ ⟨_,_,⟨x4,i5,rfl,ad,ah,rfl⟩,rfl,rfl⟩
  show G prog κ _ _ _ _ ([(8,e7 x4),(7,pt b),(5,.bool<|decide<|M=1),(6,.bool<|decide<|M=1),(4,e7 M),(3,pt b),(2,pt b1),(0,pt b)]:Env) (e8 b1 [e7 0,e7 0,e7 0] 29::e8 b [lv,e7 i5] 85::I)
  refine Z ?_
  refine Ge0 (Da da5)<|Z ?_
  exact Ek C da5 C mm C (e8 b [lv,e7 i5] 85::I) Ai ⟨(2,1+x4,0,i5),⟨⟨rfl,by show s7 2 (1+x4) (0)=0;unfold s7;rw [An om,An om]⟩,by show 0<=i5;omega⟩,rfl⟩
 refine Am C (λc11=>?_)<|λc11=>Z ?_
 ·refine Ak (Gm C<|G.e (Ac c_ C C<|Q1 ta1 (Bg (hl _) Ah) om om) ?_)
  rintro _ _ ⟨_,_,⟨x6,i7,rfl,ab,ae,rfl⟩,rfl,rfl⟩
  show G prog κ _ _ _ _ ([(14,e7 x6),(13,pt b),(11,.bool<|decide<|M=2),(12,.bool<|decide<|M=2),(5,.bool<|decide<|M=1),(6,.bool<|decide<|M=1),(4,e7 M),(3,pt b),(2,pt b1),(0,pt b)]:Env) (e8 b1 [e7 0,e7 0,e7 0] 29::e8 b [lv,e7 i7] 85::I)
  refine Z ?_
  refine Ge0 (Da da5)<|Z ?_
  exact Ek C da5 C mm C (e8 b [lv,e7 i7] 85::I) Ai ⟨(3,0,x6,i7),⟨⟨rfl,by show s7 3 0 (x6)=0;unfold s7;rw [An om,An om]⟩,by show 0<=i7;omega⟩,rfl⟩
 refine Ge0 (Da da5) ?_
 exact Ar<|B3<|Ek C da5 C mm C (e8 b [lv,e7 i3] 85::I) Ai ⟨(1,0,0,i3),⟨⟨rfl,by show s7 1 0 (0)=0;unfold s7;rw [An om,An om]⟩,by show 0<=i3;omega⟩,rfl⟩
theorem cc0{F:Item->List Item}(M:AtF I (ap5 b lv i) F)(hl:∀q,Sl κ (F (ap5 b lv q)) lv ls)(h0:0<=i)   :
  eu prog κ 15 [(pt b)] I λr J=>∃y:Int×Int×Int×Int,((r = .agg #[e7 y.1,e7 y.2.1,e7 y.2.2.1]/\s7 y.1 y.2.1 y.2.2.1=0)/\0<=y.2.2.2)/\J=[]++F (ap5 b lv y.2.2.2):=
 Fl (Post:=λr (y:Int×Int×Int×Int)=>(r = .agg #[e7 y.1,e7 y.2.1,e7 y.2.2.1]/\s7 y.1 y.2.1 y.2.2.1=0)/\0<=y.2.2.2) (Z:=λy:Int×Int×Int×Int=>[]) (X:=λy:Int×Int×Int×Int=>ap5 b lv y.2.2.2) M λJ _ hF=>bk3 (λq=>(hl q).fit (hF _)) h0  
end Go.Sl
namespace Go.Sl
open Go.Proofs
set_option maxRecDepth 4000
end Go.Sl
