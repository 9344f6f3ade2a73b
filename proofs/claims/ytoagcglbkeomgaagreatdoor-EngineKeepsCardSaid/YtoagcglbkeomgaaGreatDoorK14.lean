/- A part of the proofs of statements of this seat: contracts of functions, and the plain laws that they lean on. No conditions. -/
import Derived.Test.YtoagcglbkeomgaaGreatDoorK13
set_option linter.unusedVariables false
set_option linter.unusedSimpArgs false
set_option linter.unusedSectionVars false
open List (replicate)
set_option maxHeartbeats 4000000
namespace Go.Sl
open Go.Proofs
set_option maxRecDepth 4000
variable{l xs ys:List Int}{i j w x y:Int}{c k:Nat}{va:Value}{A:List Item}{ad:Option Addr}
variable {κ:Ctx}{I:List Item}
theorem sumL_set{v:Int}(Z:0<=i)(h:i<l.length):(l.set i.toNat v).sum=l.sum - e_ l i+v:=by
 obtain ⟨k,rfl⟩:=Int.eq_ofNat_of_zero_le Z
 rw [Int.toNat_natCast]
 clear Z
 induction l generalizing k with
 |nil=>simp at h;omega
 |cons x xs ih=>
  cases k with
  |zero=>simp [e_];omega
  |succ k=>
   have:=ih k (by simp at h;omega)
   have e:e_ (x::xs) ((k+1:Nat):Int)=e_ xs k:=by unfold e_;simp
   rw [e,List.set_cons_succ,List.sum_cons,List.sum_cons,this];omega
theorem sumL_take(h:k<l.length):(l.take (k+1)).sum=(l.take k).sum+e_ l k:=by
 rw [Cj l k h,List.sum_append];simp
theorem sumL_rep(n:Nat):(replicate n (default:Int)).sum=0:=by
 induction n with
 |zero=>rfl
 |succ n ih=>rw [List.replicate_succ,List.sum_cons,ih];rfl
def triS(nd:Int)(es:List Pt):Int:=(es.map λe=>((commonG nd es e.u e.v).length:Int)).sum
def triK(nd:Int)(es:List Pt)(k:Nat):Int:=((es.take k).map λe=>((commonG nd es e.u e.v).length:Int)).sum
theorem triK_succ{nd:Int}{es:List Pt}(h:k<es.length):triK nd es (k+1)=triK nd es k+((commonG nd es (e_ es k).u (e_ es k).v).length:Int):=by
 unfold triK
 rw [Cj es k h,List.map_append,List.sum_append];simp
theorem triK_all(nd:Int)(es:List Pt):triK nd es es.length=triS nd es:=by unfold triK triS;rw [List.take_length]
theorem commonG_len(nd:Int)(es:List Pt)(u v:Int):(commonG nd es u v).length<=64:=by
 by_cases h:u=v
 ·unfold commonG;rw [if_pos h];simp
 rw [←common_eq h];exact Eu _
theorem triK_bd(nd:Int)(es:List Pt):∀k,k<=es.length->0<=triK nd es k/\triK nd es k<=64*(k:Int)
 |0,_=>by unfold triK;simp
 |k+1,h=>by
  have Z:=triK_bd nd es k om
  have:=commonG_len nd es (e_ es k).u (e_ es k).v
  rw [triK_succ om];omega
theorem sum_le_all(h:∀x∈l,0<=x):∀k,k<=l.length->0<=(l.take k).sum/\(l.take k).sum<=l.sum:=by
 have M:∀l:List Int,(∀x∈l,0<=x)->∀k,0<=(l.take k).sum/\(l.take k).sum<=l.sum:=λl=>by
  induction l with
  |nil=>intro _ k;simp
  |cons x xs ih=>
   intro h k
   have h0:=h x List.mem_cons_self
   have Z:=ih λy hy=>h y (List.mem_cons_of_mem _ hy)
   cases k with
   |zero=>have:=Z xs.length;rw [List.take_length] at this;simp;omega
   |succ k=>have:=Z k;simp;omega
 exact λk _=>M l h k
theorem common_rng{nd:Int}{es:List Pt}(hG:GrOk nd es){u v:Int}(Z:x∈commonG nd es u v):0<=x/\x<nd:=by
 unfold commonG at Z
 split at Z
 ·cases Z
 have M:=(mem_meetL.1 Z).1
 unfold nbG at M
 rw [if_neg (by rw [checkG_ok.2 hG];decide),mem_ofL,mem_nbL] at M
 rcases M with h|h
 ·have:=hG.edge _ h;simp only at this;omega
 have:=hG.edge _ h;simp only at this;omega
theorem mem_le_sum:∀{l:List Int},(∀x∈l,0<=x)->∀{x:Int},x∈l->x<=l.sum
 |[],_,x,hx=>by cases hx
 |y::ys,h,x,hx=>by
  have h0:=h y List.mem_cons_self
  have Z:∀z∈ys,0<=z:=λz M=>h z (List.mem_cons_of_mem _ M)
  have h2:=(sum_le_all Z ys.length<|Nat.le_refl _)
  rw [List.take_length] at h2
  rw [List.sum_cons]
  rcases List.mem_cons.1 hx with rfl|hx
  ·omega
  have:=mem_le_sum Z hx;omega
theorem Nodes29_ok{nd:Int}{va:Value}{es:List Pt}(hl:Sl κ I va es)(hG:GrOk nd es):eu Tryz.prog κ 54 [.agg #[e7 nd,va]] I (λr J=>∃a c,∃out:List Int,r = .tuple #[.slice a out.length c,e7 0]/\(out.length<=64/\out.sum=triS nd es/\∀x∈out,0<=x)/\J=vc 3 (.slice a out.length c) out::I):=by
 have aw:=hG.rng
 have az:=edges_le hG
 refine Ce1 Tryz.func54 C C ?_
 refine Af<|Ge1 (Bg (cs:=[_,_]) C C C) λb1=>Ga C<|Ga C<|Ac<|Aq<|Af<|Gl2 ty38 ?_
 refine G.e (Ak c_ C C<|Check03G_ok (nd:=nd)<|A8 hl) ?_
 rintro _ _ ⟨_,_,⟨rfl,rfl⟩,rfl,rfl⟩
 refine Ga C<|Ac<|Af<|Gm C<|Gr (Bo C C)<|Ac<|A5 C (λc12=>?_)<|λc12=>?_
 ·exact absurd (checkG_ok.2 hG) c12
 refine Av<|Ah<|Af<|Gf fld38_0 C<|Gl ef ?_
 refine Ge2 (Du (α:=Int) (n:=nd.toNat) Ab ef C C C om om dc C) λaa M=>?_
 refine Ga C<|Ac<|Aq<|Af<|Ga C<|Ac<|Ao (S3 6 5 1 C C C)<|Aw<|Bu (σ:=Nat×(List Int)) (λs=>([(1,.pointer<|some ⟨b1,0,none⟩),(5,.slice aa (replicate nd.toNat (default:Int)).length M),(6,e7 ((s.1:Nat):Int))]:Env)) (λs=>vc 3 (.slice aa (replicate nd.toNat (default:Int)).length M) (s.2)::e8 b1 [e7 nd,va] 38::I) (λs=>(s.1<=es.length)/\(s.2.length=nd.toNat)/\(s.2.sum=triK nd es s.1)/\(∀x∈s.2,0<=x)) (λs=>es.length - s.1) (0,replicate nd.toNat (default:Int)) (show ((0:Nat)<=es.length)/\((replicate nd.toNat (default:Int):List Int).length=nd.toNat)/\((replicate nd.toNat (default:Int):List Int).sum=triK nd es (0:Nat))/\(∀x∈(replicate nd.toNat (default:Int):List Int),0<=x) from ⟨om,(by rw [List.length_replicate]),(by rw [sumL_rep];rfl),(λx hx=>by rw [List.eq_of_mem_replicate hx];exact Int.le_refl 0)⟩) (Aa C<|Aa C<|Aa B2 Bi) (show Fit κ _ (vc 3 (.slice aa (replicate nd.toNat (default:Int)).length M) ((replicate nd.toNat (default:Int)))::e8 b1 [e7 nd,va] 38::I) from Bl) ?_
 rintro ⟨k,out⟩ hp
 dsimp only at hp ⊢
 obtain ⟨hk,ak,ao,an⟩:=hp
 have ar:=λh:k<=es.length=>triK_bd nd es k h
 refine Aq<|Af<|Gm C<|Gf fld38_1 C<|Gl ty36 ?_
 refine Gr (B9 (α:=Pt) (xs:=es) Au C<|A8 hl)<|Gr (A4 C C)<|Ac<|A5 C (λav=>?_)<|λav=>?_
 ·refine Av (Ah<|Aq<|Aw<|Aq<|Bq mixed<|Ca (vc 3 (.slice aa (replicate nd.toNat (default:Int)).length M) (out)::e8 b1 [e7 nd,va] 38::I) 15<|Dr 0 C (Be (vs:=[_,_]) ty38) ?_)
  refine Dr 1 C (Ad fld38_1 C)<|Dr 2 C (Bb ty36) ?_
  refine Dr 3 C (Ai C)<|Dr 4 C (Ax (α:=Pt) (xs:=es) Au ty105 C C (A8 hl) om oo)<|Dr 5 C (Runs.fld (α:=Pt) (xs:=es) fld105_0 C (A8 hl) oo)<|Dr 6 C (Runs.getf (α:=Pt) (xs:=es) (u:=e7 ((e_ es k).u)) ef C (A8 hl) om oo C)<|Dr 7 C (Ad fld38_1 C)<|Dr 8 C (Bb ty36) ?_
  refine Dr 9 C (Ai C)<|Dr 10 C (Ax (α:=Pt) (xs:=es) Au ty105 C C (A8 hl) om oo)<|Dr 11 C (Runs.fld (α:=Pt) (xs:=es) fld105_1 C (A8 hl) oo)<|Dr 12 C (Runs.getf (α:=Pt) (xs:=es) (u:=e7 ((e_ es k).v)) ef C (A8 hl) om oo C)<|Ds1 13<|Sc2 C (Ak c_ C C<|Common03_ok (nd:=nd) (A8 hl) ((e_ es k).u) ((e_ es k).v) om) λai aj=>?_
  refine Dr 14 C (Bd C)<|Dz<|Ah<|Ao (S4 7 1 5 6 C C C C)<|Af<|Ga C<|Ac<|Aw<|Bu (σ:=Nat×(List Int)) (λs=>([(1,.pointer<|some ⟨b1,0,none⟩),(5,.slice aa (replicate nd.toNat (default:Int)).length M),(6,e7<|(k:Int)),(7,.slice ai (commonG nd es ((e_ es k).u)<|(e_ es k).v).length aj),(8,e7 ((s.1:Nat):Int))]:Env)) (λs=>vc 3 (.slice aa (replicate nd.toNat (default:Int)).length M) (s.2)::vc 3 (.slice ai (commonG nd es ((e_ es k).u)<|(e_ es k).v).length aj) (commonG nd es ((e_ es k).u)<|(e_ es k).v)::e8 b1 [e7 nd,va] 38::I) (λs=>(s.1<=(commonG nd es (e_ es k).u (e_ es k).v).length)/\(s.2.length=nd.toNat)/\(s.2.sum=triK nd es k+(s.1:Int))/\(∀x∈s.2,0<=x)) (λs=>(commonG nd es (e_ es k).u (e_ es k).v).length - s.1) (0,out) (show ((0:Nat)<=(commonG nd es (e_ es k).u (e_ es k).v).length)/\((out:List Int).length=nd.toNat)/\((out:List Int).sum=triK nd es k+((0:Nat):Int))/\(∀x∈(out:List Int),0<=x) from ⟨om,ak,(by rw [ao];simp),an⟩) (Aa C<|Aa C<|Aa C<|Aa C<|Aa B2 Bi) (show Fit κ _ (vc 3 (.slice aa (replicate nd.toNat (default:Int)).length M) ((out))::vc 3 (.slice ai (commonG nd es ((e_ es k).u)<|(e_ es k).v).length aj) (commonG nd es ((e_ es k).u)<|(e_ es k).v)::e8 b1 [e7 nd,va] 38::I) from Bl) ?_
  rintro ⟨k2,Z⟩ hp
  dsimp only at hp ⊢
  obtain ⟨ax,ad,ah,ab⟩:=hp
  have aq:k2<(commonG nd es (e_ es k).u (e_ es k).v).length->0<=e_ (commonG nd es (e_ es k).u (e_ es k).v) (k2:Int)/\e_ (commonG nd es (e_ es k).u (e_ es k).v) (k2:Int)<nd:=λh=>common_rng hG (B1 om om)
  have ay:=commonG_len nd es (e_ es k).u (e_ es k).v
  have ap:k2<(commonG nd es (e_ es k).u (e_ es k).v).length->0<=e_ Z (e_ (commonG nd es (e_ es k).u (e_ es k).v) (k2:Int))/\e_ Z (e_ (commonG nd es (e_ es k).u (e_ es k).v) (k2:Int))<=1000000:=λh=>by have h1:=aq h;have h2:=B1 (xs:=Z) (i:=e_ (commonG nd es (e_ es k).u (e_ es k).v) (k2:Int)) om om;have h3:=mem_le_sum ab h2;have h4:=ab _ h2;have h5:=ar om;omega
  refine Aq<|Af<|Gm C<|Gm C<|Gr (Bh Ab C)<|Gr (A4 C C)<|Ac<|A5 C (λau=>?_)<|λau=>?_
  ·refine Av (Ah<|Aq<|Aw<|Ar<|Gm C<|Gm C<|Gm C<|Gr (Ax (α:=Int) (xs:=commonG nd es ((e_ es k).u) ((e_ es k).v)) Ab ef C C Bf om oo)<|Gr (Br (xs:=commonG nd es ((e_ es k).u) ((e_ es k).v)) ef C Bf om oo)<|Gr (Ax (α:=Int) (xs:=Z) Ab ef C C Bf om oo)<|Gr (Br (xs:=Z) ef C Bf om oo)<|Gr (Rad C C)<|Gr (Ax (α:=Int) (xs:=Z) Ab ef C C Bf om oo)<|Ge0 (Cu (α:=Int) (xs:=Z) (e:=3) (new:=(e_ Z<|e_ (commonG nd es ((e_ es k).u)<|(e_ es k).v) (k2:Int))+1) ef C C C om oo am) ?_)
   exact Bj<|Aj<|Ah<|Ao (S5 1 5 6 7 8 C C C C C)<|Ar<|Gm C<|Gr (Rad C C)<|Ga C<|Bj<|B3 ((k2+1),(List.set Z (e_ (commonG nd es ((e_ es k).u)<|(e_ es k).v) (k2:Int)).toNat ((e_ Z<|e_ (commonG nd es ((e_ es k).u)<|(e_ es k).v) (k2:Int))+1)))<|by dsimp only;exact ⟨om,(by rw [List.length_set];exact ad),(by rw [sumL_set om om,ah];omega),(λx hx=>by rcases List.mem_or_eq_of_mem_set hx with h|h;(· exact ab x h);(· rw [h];have:=ap om;omega))⟩
  exact Bs<|Al<|Al<|A2<|Aj<|Ah<|Ar<|Gm C<|Gr (Rad C C)<|Ga C<|Bj<|B3 ((k+1),(Z))<|by dsimp only;exact ⟨om,ad,(by rw [triK_succ om,ah,show k2=(commonG nd es (e_ es k).u (e_ es k).v).length by omega]),ab⟩
 refine Bs<|Al<|Al<|A2<|Ah<|Af<|Gm C<|Ga C<|Ga C<|Ac<|Az ?_
 have ae:(replicate nd.toNat (default:Int)).length=out.length:=by rw [List.length_replicate,ak]
 exact C7 C C C (vc 3 (.slice aa out.length M) out::I) (by rw [←ae];exact Bl) ⟨aa,M,out,by rw [←ae],⟨by omega,by rw [ao,show k=es.length by omega,triK_all],an⟩,rfl⟩
theorem triS_bd{nd:Int}{es:List Pt}(Z:GrOk nd es):0<=triS nd es/\triS nd es<=129024:=by
 have:=triK_bd nd es es.length (Nat.le_refl _)
 rw [triK_all] at this
 have:=edges_le Z
 omega
theorem Count29_ok{nd:Int}{es:List Pt}(hl:Sl κ I va es)(hG:GrOk nd es):eu Tryz.prog κ 21 [.agg #[e7 nd,va]] I (λr J=>r = .tuple #[e7 (triS nd es / 3),e7 0]/\I=J):=by
 refine Ce1 Tryz.func21 C C ?_
 refine Af<|Ge1 (Bg (cs:=[_,_]) C C C) λb1=>Ga C<|Ga C<|Ac<|Af<|Gl2 ty38 ?_
 refine G.e (Ak c_ C C<|Nodes29_ok (nd:=nd) (A8 hl) hG) ?_
 rintro _ _ ⟨_,_,⟨aa,ab,Z,rfl,M,rfl⟩,rfl,rfl⟩
 refine Gm C<|Gr (Am C C)<|Gr (Am C C)<|Ga C<|Ga C<|Ac<|Af<|Ga C<|Ac<|Aq<|Af<|Ga C<|Ac<|Aw<|Bu (σ:=Nat×Int) (λs=>([(4,.slice aa Z.length ab),(5,e7 0),(6,e7<|s.2),(7,e7 ((s.1:Nat):Int))]:Env)) (λs=>vk 3 aa ab Z::e8 b1 [e7 nd,va] 38::I) (λs=>(s.1<=Z.length)/\(s.2=(Z.take s.1).sum)) (λs=>Z.length - s.1) (0,0) (show ((0:Nat)<=Z.length)/\((0:Int)=(Z.take (0:Nat)).sum) from ⟨om,rfl⟩) (Aa C<|Aa C<|Aa B2<|Aa B2 Bi) (show Fit κ _ (vk 3 aa ab Z::e8 b1 [e7 nd,va] 38::I) from Bc) ?_
 rintro ⟨k,q⟩ hp
 dsimp only at hp ⊢
 obtain ⟨hk,ad⟩:=hp
 have ak:=sum_le_all M.2.2 k om
 have aj:=λh:k<Z.length=>M.2.2 _ (B1 (xs:=Z) (i:=((k:Nat):Int)) om om)
 have an:=λh:k<Z.length=>mem_le_sum M.2.2 (B1 (xs:=Z) (i:=((k:Nat):Int)) om om)
 have ao:=triS_bd hG
 have ae:=M.2.1
 refine Aq<|Af<|Gm C<|Gm C<|Gr (Bh Ab C)<|Gr (A4 C C)<|Ac<|A5 C (λai=>?_)<|λai=>?_
 ·exact Av<|Ah<|Aq<|Aw<|Ar<|Gm C<|Gm C<|Gm C<|Gr (Ax (α:=Int) (xs:=Z) Ab ef C C Bf om om)<|Gr (Br (xs:=Z) ef C Bf om om)<|Gr (Rad C C)<|Ga C<|Bj<|Aj<|Ah<|Ao (S4 6 4 5 7 C C C C)<|Ar<|Gm C<|Gr (Rad C C)<|Ga C<|Bj<|B3 ((k+1),(q+(e_ Z k)))<|by dsimp only;exact ⟨om,(by rw [sumL_take om,←ad])⟩
 refine Bs<|Al<|Al<|A2<|Ah<|Af<|Gm C<|Gr (Runs.quo C C om om<|by unfold InR;omega)<|Gm C<|Ga C<|Ga C<|Ac<|Az ?_
 have ah:q=triS nd es:=by rw [ad,List.take_of_length_le om];exact ae
 exact C7 C C C I Ay ⟨by rw [ah],rfl⟩
def interF(xs ys:List Int):List Int:=xs.filter λx=>decide (x∈ys)
theorem head_drop(h:0<xs.length):xs=e_ xs 0::List.drop 1 xs:=by
 cases xs with
 |nil=>cases h
 |cons x xs=>rfl
theorem asc_drop(h:xs.Pairwise (λM Z:Int=>M<Z)):(List.drop 1 xs).Pairwise (λM Z:Int=>M<Z):=h.sublist (List.drop_sublist _ _)
theorem head_lt(h:xs.Pairwise (λx0 Z:Int=>x0<Z))(M:0<xs.length)(hy:y∈List.drop 1 xs):e_ xs 0<y:=by
 rw [head_drop M] at h
 exact (List.pairwise_cons.1 h).1 y hy
theorem inter_lt(hy:ys.Pairwise (λx0 x1:Int=>x0<x1))(h0:0<xs.length)(Z:0<ys.length)(h:e_ xs 0<e_ ys 0):interF xs ys=interF (List.drop 1 xs) ys:=by
 have hn:e_ xs 0∉ys:=λM=>by
  rw [head_drop Z] at M
  rcases List.mem_cons.1 M with e|e
  ·omega
  have:=head_lt hy Z e;omega
 conv=>lhs;rw [head_drop h0]
 unfold interF
 rw [List.filter_cons_of_neg (by simpa using hn)]
theorem inter_gt(hx:xs.Pairwise (λx0 x1:Int=>x0<x1))(h0:0<xs.length)(h1:0<ys.length)(h:e_ ys 0<e_ xs 0):interF xs ys=interF xs (List.drop 1 ys):=by
 unfold interF
 refine List.filter_congr λx Z=>?_
 rw [decide_eq_decide]
 have aa:e_ ys 0<x:=by
  rw [head_drop h0] at Z
  rcases List.mem_cons.1 Z with rfl|e
  ·exact h
  have:=head_lt hx h0 e;omega
 constructor
 ·intro M
  rw [head_drop h1] at M
  rcases List.mem_cons.1 M with e|e
  ·omega
  exact e
 exact λM=>List.mem_of_mem_drop M
theorem inter_eq(hx:xs.Pairwise (λx0 x1:Int=>x0<x1))(h0:0<xs.length)(h1:0<ys.length)(h:e_ xs 0=e_ ys 0):interF xs ys=e_ xs 0::interF (List.drop 1 xs) (List.drop 1 ys):=by
 have Z:e_ xs 0∈ys:=by rw [h];exact B1 om om
 conv=>lhs;rw [head_drop h0]
 unfold interF
 rw [List.filter_cons_of_pos (p:=λx=>decide<|x∈ys) (decide_eq_true Z)]
 congr 1
 refine List.filter_congr λx M=>?_
 rw [decide_eq_decide]
 have aa:=head_lt hx h0 M
 constructor
 ·intro Z
  rw [head_drop h1] at Z
  rcases List.mem_cons.1 Z with e|e
  ·omega
  exact e
 exact λZ=>List.mem_of_mem_drop Z
theorem inter_nil(h:xs.length=0\/ys.length=0):interF xs ys=[]:=by
 unfold interF
 rcases h with h|h
 ·rw [List.length_eq_zero_iff.1 h];rfl
 rw [List.length_eq_zero_iff.1 h];simp
theorem Shared_ok{κ:Ctx}{I:List Item}{a0 b0:Option Addr}{c0 d0:Nat}(hl:Sl κ I (.slice a0 xs.length c0) xs)(hm:Sl κ I (.slice b0 ys.length d0) ys)(hx:xs.Pairwise (λx0 x1:Int=>x0<x1))(hy:ys.Pairwise (λx0 x1:Int=>x0<x1))(hb:xs.length<=100000):eu Tryz.prog κ 133 [.slice a0 xs.length c0,.slice b0 ys.length d0] I (λr J=>∃a c,r = .slice a (interF xs ys).length c/\J=vk 3 a c (interF xs ys)::I):=by
 refine Ce2 Tryz.func133 C C ?_
 refine Af<|Ga C<|Ac<|Af<|Ga C<|Ac<|Aq<|Aw<|Bu (σ:=(Option Addr)×Nat×(List Int)×(Option Addr)×Nat×(List Int)×(Option Addr)×Nat×(List Int)) (λs=>([(0,.slice s.1 s.2.2.1.length s.2.1),(1,.slice s.2.2.2.1 s.2.2.2.2.2.1.length s.2.2.2.2.1),(5,.slice s.2.2.2.2.2.2.1 s.2.2.2.2.2.2.2.2.length s.2.2.2.2.2.2.2.1)]:Env)) (λs=>vk 3 s.2.2.2.2.2.2.1 s.2.2.2.2.2.2.2.1 s.2.2.2.2.2.2.2.2::I) (λs=>(Sl κ I (.slice s.1 s.2.2.1.length s.2.1) s.2.2.1)/\(Sl κ I (.slice s.2.2.2.1 s.2.2.2.2.2.1.length s.2.2.2.2.1) s.2.2.2.2.2.1)/\(s.2.2.1.Pairwise (λx0 x1:Int=>x0<x1))/\(s.2.2.2.2.2.1.Pairwise (λx0 x1:Int=>x0<x1))/\(interF xs ys=s.2.2.2.2.2.2.2.2++interF s.2.2.1 s.2.2.2.2.2.1)/\(s.2.2.2.2.2.2.2.2.length+s.2.2.1.length<=xs.length)) (λs=>(s.2.2.1.length+s.2.2.2.2.2.1.length)) (a0,c0,xs,b0,d0,ys,none,0,[]) (show (Sl κ I (.slice (a0:Option Addr) (xs:List Int).length (c0:Nat)) (xs:List Int))/\(Sl κ I (.slice (b0:Option Addr) (ys:List Int).length (d0:Nat)) (ys:List Int))/\((xs:List Int).Pairwise (λx0 x1:Int=>x0<x1))/\((ys:List Int).Pairwise (λx0 x1:Int=>x0<x1))/\(interF xs ys=([]:List Int)++interF (xs:List Int) (ys:List Int))/\(([]:List Int).length+(xs:List Int).length<=xs.length) from ⟨hl,hm,hx,hy,rfl,(by simp)⟩) (Aa (Cx C<|by first|rfl|simp)<|Aa (Cx C<|by first|rfl|simp)<|Aa (Cx C<|by first|rfl|simp) Bi) (show Fit κ _ (vk 3 none 0 ([])::I) from (Cb _ _)) ?_
 rintro ⟨pa,pc,Z,qa,qc,M,oa,oc,out⟩ hp
 dsimp only at hp ⊢
 obtain ⟨hA,hB,aa,ad,ab,an⟩:=hp
 refine Aq<|Af<|Gm C<|Gr (Bh Ab C)<|Gr (Cc C C)<|Gm C<|Bt (d:=9) C (λg9=>?_)<|λg9=>?_
 ·refine e9 (Ai C) (e9 (Bh Ab C)<|e9 (Cc C C)<|Gr (Ba C C)<|Ac<|A5 C (λc13=>?_)<|λc13=>?_)
  ·refine Av (Ah<|Aw<|Aq<|Bq mixed<|Ca (vk 3 oa oc out::I) 7<|Dr 0 C (Ai C)<|Dr 1 C (Ax (α:=Int) (xs:=Z) Ab ef C C (A8 hA) om om)<|Dr 2 C (Br (xs:=Z) ef C (A8 hA) om om)<|Dr 3 C (Ai C)<|Dr 4 C (Ax (α:=Int) (xs:=M) Ab ef C C (A8 hB) om om)<|Dr 5 C (Br (xs:=M) ef C (A8 hB) om om)<|Ds1 6<|Sc0 C (Ak c_ C C<|Compare_ok (e_ Z 0)<|e_ M 0) ?_)
   have ao:(e_ Z 0<e_ M 0/\cmpI (e_ Z 0) (e_ M 0) = -1)\/(e_ M 0<e_ Z 0/\cmpI (e_ Z 0) (e_ M 0)=1)\/(e_ Z 0=e_ M 0/\cmpI (e_ Z 0) (e_ M 0)=0):=by unfold cmpI;repeat (first|omega|split)
   refine Dz<|Ah<|Ao (S4 20 0 1 5 C C C C)<|Aw<|Af<|Gr (Bw C C)<|Ga C<|Ac<|A5 C (λai=>?_)<|λai=>?_
   ·exact Ar<|Gm C<|Gr (Ek (α:=Int) (xs:=Z) (l:=1) Ab ef C C om (A8 hA) om)<|Ga C<|Bj<|Aj<|Aj<|B3 (((adrop pa pc 1<|Enc.sz Int)),((pc - 1)),(List.drop 1 Z),(qa),(qc),(M),(oa),(oc),(out)) (by dsimp only;exact ⟨(Sl.drop hA om),hB,(asc_drop aa),ad,(by rw [ab,inter_lt ad om om om]),(by first|omega|(simp only [List.length_append,List.length_drop,List.length_cons,List.length_nil];omega))⟩) (hlt:=by (try dsimp only);exact (by simp only [List.length_drop];omega))
   refine Af<|Gr (Bw C C)<|Ga C<|Ac<|A5 C (λaj=>?_)<|λaj=>?_
   ·exact Ar<|Gm C<|Gr (Ek (α:=Int) (xs:=M) (l:=1) Ab ef C C om (A8 hB) om)<|Ga C<|Bj<|Aj<|Aj<|B3 ((pa),(pc),(Z),((adrop qa qc 1<|Enc.sz Int)),((qc - 1)),(List.drop 1 M),(oa),(oc),(out)) (by dsimp only;exact ⟨hA,(Sl.drop hB om),aa,(asc_drop ad),(by rw [ab,inter_gt aa om om om]),(by first|omega|(simp only [List.length_append,List.length_drop,List.length_cons,List.length_nil];omega))⟩) (hlt:=by (try dsimp only);exact (by simp only [List.length_drop];omega))
   refine Af<|Gm C<|Gm C<|Gr (Ax (α:=Int) (xs:=Z) Ab ef C C (A8 hA) om om)<|Gr (Br (xs:=Z) ef C (A8 hA) om om)<|Ge1 (Cf (α:=Int) (cs:=[_]) (xs:=[e_ Z 0]) Ab ef C C dc dc C C C C) λak=>?_
   refine Ge2 (Cg (α:=Int) (e:=3) (xs:=out) (ys:=([e_ Z 0]:List Int)) Ab ef C C C mm Bf lcn dc C<|λ_ _=>am) λae ah=>?_
   exact Ga C<|Ac<|Ao (S3 5 0 1 C C C)<|Bq mixed<|Ca (vc 3 (.slice ak 1 1) (([e_ Z 0]:List Int))::vk 3 ae ah (out++([e_ Z 0]:List Int))::I) 6<|Dr 0 C (Ai C)<|Dr 1 C (Ek (α:=Int) (xs:=Z) (l:=1) Ab ef C C om (A8 hA) om)<|Dr 2 C (Ai C)<|Dr 3 C (Ek (α:=Int) (xs:=M) (l:=1) Ab ef C C om (A8 hB) om)<|Dr 4 C (Bd C)<|Dr 5 C (Bd C)<|Dz<|Aj<|Aj<|B3 (((adrop pa pc 1<|Enc.sz Int)),((pc - 1)),(List.drop 1 Z),((adrop qa qc 1<|Enc.sz Int)),((qc - 1)),(List.drop 1 M),(ae),(ah),(out++([e_ Z 0]:List Int))) (by dsimp only;exact ⟨(Sl.drop hA om),(Sl.drop hB om),(asc_drop aa),(asc_drop ad),(by rw [ab,inter_eq aa om om om,List.append_assoc];rfl),(by first|omega|(simp only [List.length_append,List.length_drop,List.length_cons,List.length_nil];omega))⟩) (hlt:=by (try dsimp only);exact (by simp only [List.length_drop];omega))
  refine Bs<|Al<|Al<|A2<|Ah<|Af<|Gm C<|Ga C<|Ac<|Ao (S1 4 C)<|Az ?_
  have hE:interF xs ys=out:=by rw [ab,inter_nil om,List.append_nil]
  exact A1 C C (vk 3 oa oc (interF xs ys)::I) (by rw [hE];exact Bc) ⟨oa,oc,by rw [hE],rfl⟩
 refine eb<|eb<|eb<|Gr (A6 C C)<|Ac<|Dp C<|Bs<|Al<|Al<|A2<|Ah<|Af<|Gm C<|Ga C<|Ac<|Ao (S1 4 C)<|Az ?_
 have hE:interF xs ys=out:=by rw [ab,inter_nil om,List.append_nil]
 exact A1 C C (vk 3 oa oc (interF xs ys)::I) (by rw [hE];exact Bc) ⟨oa,oc,by rw [hE],rfl⟩
variable {κ:Ctx}{I:List Item}
theorem FitW{κ:Ctx}{B:List Item}(h:B.Sublist A:=by repeat (first|exact List.Sublist.refl _|exact List.sublist_append_right _ _|apply List.Sublist.cons_cons|apply List.Sublist.cons)):Fit κ A B:=Dm h
theorem At.ow{I:List Item}:∀{rs:List (RowG Int)} {i:Int},0<=i->i<rs.length->
  At (ownR 3 rs++I) (vk 3 (e_ rs i).a (e_ rs i).c (e_ rs i).xs) (vk 3 ad c xs) (ownR 3 (List.set rs i.toNat ⟨ad,c,xs⟩)++I):=fun {rs} {i} Z h=>by
 obtain ⟨k,rfl⟩:∃k:Nat,i=(k:Int):=⟨i.toNat,by omega⟩
 rw [Int.toNat_natCast]
 clear Z
 induction rs generalizing k with
 |nil=>simp at h;omega
 |cons r rs ih=>
  cases k with
  |zero=>exact At.head _ _ _
  |succ k=>exact At.tail _ (ih k<|by simp at h;omega)
theorem ow_mem{I:List Item}{rs:List (RowG Int)}(Z:0<=i)(h:i<rs.length):vk 3 (e_ rs i).a (e_ rs i).c (e_ rs i).xs∈ownR 3 rs++I:=(At.ow (ad:=none) (c:=0) (xs:=[]) Z h).mem
theorem ow_held{rs:List (RowG Int)}(Z:0<=i)(h:i<rs.length):Sl κ (ownR 3 rs++I) (.slice (e_ rs i).a (e_ rs i).xs.length (e_ rs i).c) (e_ rs i).xs:=C3 (ow_mem Z h)
theorem At.ow2{I:List Item}{rs:List (RowG Int)}{x:RowG Int}(h0:0<=i)(h:i<rs.length)(j0:0<=j)(hj:j<rs.length)(Z:j≠i) :
  At (ownR 3 (List.set rs j.toNat x)++I) (vk 3 (e_ rs i).a (e_ rs i).c (e_ rs i).xs) (vk 3 ad c xs) (ownR 3 (List.set (List.set rs j.toNat x) i.toNat ⟨ad,c,xs⟩)++I):=by
 have M:=At.ow (I:=I) (ad:=ad) (c:=c) (xs:=xs) (rs:=List.set rs j.toNat x) (i:=i) h0 (by rw [List.length_set];exact h)
 rw [Ee _ _ _ _ j0 h0 hj,if_neg Z] at M
 exact M
theorem Fit.nilow:∀(rs:List (RowG Int)),(∀r∈rs,r=default)->Fit κ I (ownR 3 rs++I)
 |[],_=>Er _
 |r::rs,h=>by
  refine Cq (Fit.nilow rs λx Z=>h x<|List.mem_cons_of_mem _ Z) ?_
  show Fit κ _ (vk 3 r.a r.c r.xs::_)
  rw [h r List.mem_cons_self]
  exact Cb _ _
theorem Atp{I I':List Item}{x y:Item}(h:At I x y I':=by repeat (first|exact At.ow asm asm|exact At.ow2 asm asm asm asm asm|apply At.tail)):At I x y I':=h
theorem ow2_mem{I:List Item}{rs:List (RowG Int)}{x:RowG Int}(h0:0<=i)(h:i<rs.length)(M:0<=j)(hj:j<rs.length)(Z:j≠i):vk 3 (e_ rs i).a (e_ rs i).c (e_ rs i).xs∈ownR 3 (List.set rs j.toNat x)++I:=(At.ow2 (ad:=none) (c:=0) (xs:=[]) h0 h M hj Z).mem
theorem Mmp{I:List Item}{x:Item}(h:x∈I:=by repeat (first|exact ow_mem asm asm|exact ow2_mem asm asm asm asm asm|apply List.mem_cons_of_mem)):x∈I:=h
structure RowsI (nd:Int) (es:List Pt) (rs:List (RowG Int)):Prop where
 len:(rs.length:Int)=nd
 row:∀i:Int,0<=i->i<nd->(e_ rs i).xs=nbL es i
theorem RowsI.start{nd:Int}(h:0<=nd):RowsI nd [] (replicate nd.toNat (default:RowG Int)):=⟨by rw [List.length_replicate];omega,λi Z M=>by rw [at_rep _ _ _ Z om];rfl⟩
theorem RowsI.push{nd:Int}{es:List Pt}{rs:List (RowG Int)}(h:RowsI nd (es.take k) rs)(hk:k<es.length)(he:0<=(e_ es k).u/\(e_ es k).u<(e_ es k).v/\(e_ es k).v<nd)(a b:Option Addr)(c d:Nat) :
  RowsI nd (es.take<|k+1) (List.set (List.set rs (e_ es k).u.toNat ⟨a,c,(e_ rs (e_ es k).u).xs++[(e_ es k).v]⟩) (e_ es k).v.toNat ⟨b,d,(e_ rs (e_ es k).v).xs++[(e_ es k).u]⟩):=by
 have hl:=h.len
 refine ⟨by rw [List.length_set,List.length_set];exact hl,λi Z M=>?_⟩
 rw [nbL_take hk,Ee _ _ _ _ om Z<|by rw [List.length_set];omega,Ee _ _ _ _ om Z om]
 by_cases e1:(e_ es k).v=i
 ·rw [if_pos e1,if_neg om,if_pos e1]
  show (e_ rs (e_ es k).v).xs++_=_
  rw [e1,h.row i Z M];rfl
 rw [if_neg e1,if_neg e1]
 by_cases e2:(e_ es k).u=i
 ·rw [if_pos e2,if_pos e2]
  show (e_ rs (e_ es k).u).xs++_=_
  rw [e2,h.row i Z M,List.append_nil]
 rw [if_neg e2,if_neg e2,h.row i Z M];simp
theorem eu.at_ow{κ:Ctx}{A I:List Item}{rs:List (RowG Int)}{i:Int}{x:RowG Int}(hx:e_ rs i=x)(h0:0<=i)(h:i<rs.length)(hsz:x.xs.length<4611686018427387904):eu Tryz.prog κ 163 [.slice x.a x.xs.length x.c] (A++(ownR 3 rs++I)) λr J=>∃R,r = .tuple #[]/\(vc 3 (.slice x.a x.xs.length x.c) (sortZ x.xs)::R).Perm (A++(ownR 3 (List.set rs i.toNat ⟨x.a,x.c,sortZ x.xs⟩)++I))/\J=vc 3 (.slice x.a x.xs.length x.c) (sortZ x.xs)::R:=by
 have hat:=At.ow (I:=I) (ad:=x.a) (c:=x.c) (xs:=sortZ x.xs) (rs:=rs) (i:=i) h0 h
 rw [hx] at hat
 obtain ⟨R,h1,h2⟩:=hat.perm
 unfold vk at h2;rw [sortZ_len] at h2
 have hp:(A++(ownR 3 rs++I)).Perm (vc 3 (.slice x.a x.xs.length x.c) x.xs::(A++R)):=(List.Perm.append_left A h1).trans List.perm_middle
 have hp2:(vc 3 (.slice x.a x.xs.length x.c) (sortZ x.xs)::(A++R)).Perm (A++(ownR 3 (List.set rs i.toNat ⟨x.a,x.c,sortZ x.xs⟩)++I)):=(List.perm_middle.symm).trans (List.Perm.append_left A h2.symm)
 exact Cm (C2 hp) ((sortI_ok (e:=3) hsz).mono λr J ⟨e1,e2⟩=>⟨A++R,e1,hp2,e2⟩)
theorem nbL_nodup{nd:Int}:∀{es:List Pt},es.Nodup->(∀e∈es,e.u<e.v)->∀v,(nbL es v).Nodup
  |[],_,_,v=>List.nodup_nil
  |e::es,hn,h,v=>by
    obtain ⟨h1,h2⟩:=List.nodup_cons.1 hn
    have M:=nbL_nodup (nd:=nd) h2 (λx hx=>h x<|List.mem_cons_of_mem _ hx) v
    have he:=h e List.mem_cons_self
    have e1:nbL (e::es) v=((if e.u=v then [e.v] else [])++(if e.v=v then [e.u] else []))++nbL es v:=rfl
    rw [e1]
    by_cases a:e.u=v
    · rw [if_pos a,if_neg om,List.append_nil]
      refine List.nodup_cons.2 ⟨λZ=>?_,M⟩
      rcases mem_nbL.1 Z with hh|hh
      · exact h1 (by have:e=⟨v,e.v⟩:=by rw [Df];exact ⟨a,rfl⟩
                     rw [this];exact hh)
      · have:=h _ (List.mem_cons_of_mem _ hh);simp only at this;omega
    · rw [if_neg a]
      by_cases b:e.v=v
      · rw [if_pos b,List.nil_append]
        refine List.nodup_cons.2 ⟨λZ=>?_,M⟩
        rcases mem_nbL.1 Z with hh|hh
        · have:=h _ (List.mem_cons_of_mem _ hh);simp only at this;omega
        · exact h1 (by have:e=⟨e.u,v⟩:=by rw [Df];exact ⟨rfl,b⟩
                       rw [this];exact hh)
      · rw [if_neg b];exact M
theorem sort_nb{nd:Int}{es:List Pt}(Z:GrOk nd es)(v:Int):sortZ (nbL es v)=nbG nd es v:=by
 have hn:=nbL_nodup (nd:=nd) (Fb Z.asc) (λe he=>(Z.edge e he).2.1) v
 unfold nbG
 rw [if_neg (by rw [checkG_ok.2 Z];decide)]
 refine intLin.uniq ?_ (ofL_asc _) λx=>by rw [mem_sortZ,mem_ofL]
 have M:=sortZ_asc (nbL es v)
 have h2:(sortZ<|nbL es v).Nodup:=(sortZ_perm _).nodup_iff.2 hn
 exact (M.and h2).imp λh=>by have:=h.1;have:=h.2;omega
structure ListsR (nd:Int) (es:List Pt) (rs rs2:List (RowG Int)):Prop where
 len:(rs.length:Int)=nd/\(rs2.length:Int)=nd
 row:∀i:Int,0<=i->i<nd->e_ rs2 i=⟨(e_ rs i).a,(e_ rs i).c,nbG nd es i⟩/\(e_ rs i).xs.length=(nbG nd es i).length
structure SortI (nd:Int) (rs rs2:List (RowG Int)) (k:Nat):Prop where
 len:rs2.length=rs.length
 done:∀i:Int,0<=i->i<(k:Int)->e_ rs2 i=⟨(e_ rs i).a,(e_ rs i).c,sortZ (e_ rs i).xs⟩
 rest:∀i:Int,(k:Int)<=i->i<rs.length->e_ rs2 i=e_ rs i
theorem SortI.start(nd:Int)(rs:List (RowG Int)):SortI nd rs rs 0:=⟨rfl,λi M Z=>by omega,λi _ _=>rfl⟩
theorem SortI.step{nd:Int}{rs Z:List (RowG Int)}(h:SortI nd rs Z k)(hk:k<rs.length):SortI nd rs (List.set Z ((k:Int)).toNat ⟨(e_ rs k).a,(e_ rs k).c,sortZ (e_ rs k).xs⟩) (k+1):=by
 have hl:=h.len
 refine ⟨by rw [List.length_set];exact hl,λi M h1=>?_,λi M h1=>?_⟩
 ·rw [Ee _ _ _ _ om M om]
  by_cases e:(k:Int)=i
  ·rw [if_pos e,e]
  rw [if_neg e];exact h.done i M om
 rw [Ee _ _ _ _ om om om,if_neg om];exact h.rest i om h1
theorem SortI.all{nd:Int}{es:List Pt}{rs Z:List (RowG Int)}(M:GrOk nd es)(h:SortI nd rs Z k)(hR:RowsI nd es rs)(hk:k=rs.length):ListsR nd es rs Z:=by
 have hl:=h.len
 have hr:=hR.len
 refine ⟨⟨hr,by omega⟩,λi h0 h1=>?_⟩
 have e:=hR.row i h0 h1
 rw [h.done i h0 om,e,sort_nb M]
 refine ⟨rfl,?_⟩
 rw [←sort_nb M,sortZ_len]
theorem ListsR.held{nd:Int}{es:List Pt}{rs Z:List (RowG Int)}(h:ListsR nd es rs Z)(h0:0<=i)(h1:i<nd):Sl κ (ownR 3 Z++I) (.slice (e_ rs i).a (e_ rs i).xs.length (e_ rs i).c) (nbG nd es i):=by
 obtain ⟨e,el⟩:=h.row i h0 h1
 have M:=ow_held (κ:=κ) (I:=I) (rs:=Z) (i:=i) h0 (by have:=h.len;omega)
 rw [e] at M
 rw [el];exact M
theorem Lists_ok{nd:Int}{va:Value}{es:List Pt}(hl:Sl κ I va es)(hG:GrOk nd es):eu Tryz.prog κ 132 [.agg #[e7 nd,va]] I (λr J=>∃a c rs ab,r = .slice a (rs:List (RowG Int)).length c/\ListsR nd es rs ab/\J=vc 22 (.slice a rs.length c) rs::(ownR 3 ab++I)):=by
 refine B8 hl.le λa6=>?_
 have ba:=hG.rng
 have bk:=edges_le hG
 refine Ce1 Tryz.func132 C C ?_
 refine Af<|Ge1 (Bg (cs:=[_,_]) C C C) λb1=>Ga C<|Ac<|Af<|Gf fld38_0 C<|Gl ef ?_
 refine Ge2 (Du (α:=(RowG Int)) (n:=nd.toNat) Cl ty22 C C C om om dc C) λM aa=>?_
 refine Ga C ?_
 have a9:(replicate nd.toNat (default:RowG Int)).length=nd.toNat:=List.length_replicate
 refine G.pull (p:=0<(replicate nd.toNat (default:RowG Int)).length->M≠none) (vc.isSome mm) λZ=>?_
 refine Ac<|Aq<|Af<|Gf fld38_1 C<|Gl ty36 ?_
 refine Gr (B9 (α:=Pt) (xs:=es) Au C<|A8 hl)<|Gm C<|Ac<|Aw<|Bu (σ:=Nat×(List<|RowG Int)) (λs=>([(3,.slice M (replicate nd.toNat (default:(RowG Int))).length aa),(12,va),(13,e7 ((es.length:Nat):Int)),(14,e7 ((s.1:Nat):Int))]:Env)) (λs=>vc 22 (.slice M (replicate nd.toNat (default:(RowG Int))).length aa) (s.2)::e8 b1 [e7 nd,va] 38::(ownR 3 s.2++I)) (λs=>(s.1<=es.length)/\(RowsI nd (es.take s.1) s.2)) (λs=>es.length - s.1) (0,replicate nd.toNat (default:(RowG Int))) (show ((0:Nat)<=es.length)/\(RowsI nd (es.take (0:Nat)) (replicate nd.toNat (default:(RowG Int)):List (RowG Int))) from ⟨om,(RowsI.start om)⟩) (Aa C<|Aa C<|Aa C<|Aa B2 Bi) (show Fit κ _ (vc 22 (.slice M (replicate nd.toNat (default:(RowG Int))).length aa) ((replicate nd.toNat (default:(RowG Int))))::e8 b1 [e7 nd,va] 38::(ownR 3 (replicate nd.toNat (default:(RowG Int)))++I)) from (Cq (show Fit κ _ (ownR 3 (replicate nd.toNat (default:(RowG Int)))++(vc 22 (.slice M (replicate nd.toNat (default:(RowG Int))).length aa) (replicate nd.toNat (default:(RowG Int)))::e8 b1 [e7 nd,va] 38::I)) from Cq Bl (Fit.nilow _<|λr hr=>List.eq_of_mem_replicate hr))<|C2<|Dl (A:=ownR 3 (replicate nd.toNat (default:(RowG Int)))) (L:=[vc 22 (.slice M (replicate nd.toNat (default:(RowG Int))).length aa) (replicate nd.toNat (default:(RowG Int))),e8 b1 [e7 nd,va] 38]) (T:=I))) ?_
 rintro ⟨k,rs⟩ hp
 dsimp only at hp ⊢
 obtain ⟨hk,hR⟩:=hp
 have a4:=λh:k<es.length=>hG.at h
 have bg:=hR.len
 refine Af<|Gr (A4 C C)<|Ac<|Aq<|A5 C (λa3=>?_)<|λa3=>?_
 ·refine Av (Ah<|Aq<|Aw<|Af<|Gr (Ax (α:=Pt) (xs:=es) Au ty105 C C (A8 hl) om om)<|Gr (Bx (α:=Pt) (xs:=es) ty105 C (A8 hl) om om)<|Ge1 (A3 ty105 C) λb4=>Ge0 (Cz ty105) ?_)
  obtain ⟨bf,bh,bn⟩:=a4 om
  have bm:((e_ es k).u)<rs.length:=by omega
  have be:0<=((e_ es k).v):=by omega
  have bq:((e_ es k).v)<rs.length:=by omega
  have a7:((e_ es k).u)≠((e_ es k).v):=by omega
  have ay:(((e_ rs<|(e_ es k).u).xs).length+([((e_ es k).v)]:List Int).length)*8<=140737488355328:=by rw [hR.row _ om om];have h2:=nbL_len (es.take k) ((e_ es k).u);simp only [List.length_take,List.length_cons,List.length_nil] at h2 ⊢; omega
  have aw:(((e_ rs<|(e_ es k).v).xs).length+([((e_ es k).u)]:List Int).length)*8<=140737488355328:=by rw [hR.row _ om om];have h3:=nbL_len (es.take k) ((e_ es k).v);simp only [List.length_take,List.length_cons,List.length_nil] at h3 ⊢; omega
  refine Ac<|Bq mixed<|Ca (e8 b4 [e7 ((e_ es k).u),e7<|(e_ es k).v] 105::I) 28<|Ea 0 C kr kr kr C kr (λ_ _ _ _ h=>h) (Bn C) C C FitW (Ai C) ?_
  refine Ea 1 C kr kr kr C kr (λ_ _ _ _ h=>h) (Bn C) C C FitW (Ad fld105_0 C) ?_
  refine Ea 2 C kr kr kr C kr (λ_ _ _ _ h=>h) (Bn C) C C FitW (Bb ef) ?_
  refine Ea 3 C kr kr kr C kr (λ_ _ _ _ h=>h) (Bn C) C C FitW (Ai C) ?_
  refine Ea 4 C kr kr kr C kr (λ_ _ _ _ h=>h) (Bn C) C C FitW (Ad fld105_1 C) ?_
  refine Ea 5 C kr kr kr C kr (λ_ _ _ _ h=>h) (Bn C) C C FitW (Bb ef) ?_
  refine Ea 6 C kr kr kr C kr (λ_ _ _ _ h=>h) (Bn C) C C FitW (Ai C) ?_
  refine Ea 7 C kr kr kr C kr (λ_ _ _ _ h=>h) (Bn C) C C FitW (Ad fld105_0 C) ?_
  refine Ea 8 C kr kr kr C kr (λ_ _ _ _ h=>h) (Bn C) C C FitW (Bb ef) ?_
  refine Ea 9 C kr kr kr C kr (λ_ _ _ _ h=>h) (Bn C) C C FitW (Runs.idxs (RowG Int) Cl ty22 C C (Z om) om om) ?_
  refine Ea 11 C kr kr kr C kr (λ_ _ _ _ h=>h) (Bn C) C C FitW (Ad fld105_1 C) ?_
  refine Ea 12 C kr kr kr C kr (λ_ _ _ _ h=>h) (Bn C) C C FitW (Bb ef) ?_
  refine Ea 15 C kr kr kr C kr (λ_ _ _ _ h=>h) (Bn C) C C FitW (Ai C) ?_
  refine Ea 16 C kr kr kr C kr (λ_ _ _ _ h=>h) (Bn C) C C FitW (Ad fld105_1 C) ?_
  refine Ea 17 C kr kr kr C kr (λ_ _ _ _ h=>h) (Bn C) C C FitW (Bb ef) ?_
  refine Ea 18 C kr kr kr C kr (λ_ _ _ _ h=>h) (Bn C) C C FitW (Runs.idxs (RowG Int) Cl ty22 C C (Z om) om om) ?_
  refine Ea 20 C kr kr kr C kr (λ_ _ _ _ h=>h) (Bn C) C C FitW (Ad fld105_0 C) ?_
  refine Ea 21 C kr kr kr C kr (λ_ _ _ _ h=>h) (Bn C) C C FitW (Bb ef) ?_
  refine D.two (e8 b4 [e7 ((e_ es k).u),e7<|(e_ es k).v] 105::vc 22 (.slice M (replicate nd.toNat (default:(RowG Int))).length aa) (rs)::I) 25 FitW ?_
  refine D2.read 10 C kr kr kr C kr (λ_ _ _ _ h=>h) (Bn C) C C FitW (B7 (α:=(RowG Int)) (xs:=rs) (u:= .slice (e_ rs<|(e_ es k).u).a (e_ rs<|(e_ es k).u).xs.length (e_ rs<|(e_ es k).u).c) ty22 C Bf om om C) ?_
  refine D2.read 19 C kr kr kr C kr (λ_ _ _ _ h=>h) (Bn C) C C FitW (B7 (α:=(RowG Int)) (xs:=rs) (u:= .slice (e_ rs<|(e_ es k).v).a (e_ rs<|(e_ es k).v).xs.length (e_ rs<|(e_ es k).v).c) ty22 C Bf om om C) ?_
  refine E3 (rs:=[13,22]) kr C C<|E4 ?_<|Ei ?_
  ·refine D1 C (Bn C) (Cf (α:=Int) (cs:=[_]) (xs:=[(e_ es k).v]) Ab ef C C dc dc C C C C) ?_
   rintro _ _ ⟨bi,rfl,rfl⟩
   refine ⟨FitW,?_⟩
   refine E3 (rs:=[14,22]) kr C C<|E4 ?_<|Ei ?_
   ·refine D1 C (Bn C) (Cg (α:=Int) (e:=3) (xs:=(e_ rs<|(e_ es k).u).xs) (ys:=([(e_ es k).v]:List Int)) Ab ef C C C Mmp Bf ay dc C<|λ_ _=>Atp) ?_
    rintro _ _ ⟨ax,av,rfl,rfl⟩
    refine ⟨FitW,?_⟩
    refine E3 (rs:=[22]) kr C C<|Ei ?_
    refine D1 C (Bn C) (Cf (α:=Int) (cs:=[_]) (xs:=[(e_ es k).u]) Ab ef C C dc dc C C C C) ?_
    rintro _ _ ⟨bo,rfl,rfl⟩
    refine ⟨FitW,?_⟩
    refine E3 (rs:=[23]) kr C C<|Ei ?_
    refine D1 C (Bn C) (Cg (α:=Int) (e:=3) (xs:=(e_ rs<|(e_ es k).v).xs) (ys:=([(e_ es k).u]:List Int)) Ab ef C C C Mmp Bf aw dc C<|λ_ _=>Atp) ?_
    rintro _ _ ⟨a0,aq,rfl,rfl⟩
    refine ⟨FitW,?_⟩
    refine D2.read 24 C kr kr kr C kr (λ_ _ _ _ h=>h) (Bn C) C C FitW (Runs.idxs (RowG Int) Cl ty22 C C (Z om) om om) ?_
    refine D2.stop kr ?_
    refine Ds1 25<|Se C (Cu (α:=(RowG Int)) (xs:=rs) (e:=22) (new:=(⟨ax,av,((e_ rs<|(e_ es k).u).xs++([(e_ es k).v]:List Int))⟩:RowG Int)) ty22 C C C om (by first|omega|(rw [List.length_set];omega)) am) ?_
    rintro _ _ ⟨rfl,rfl⟩
    refine ⟨FitW,?_⟩
    refine Ea 26 C kr kr kr C kr (λ_ _ _ _ h=>h) (Bn C) C C FitW (Runs.idxs (RowG Int) Cl ty22 C C (Z om) om om) ?_
    refine Ds1 27<|Se C (Cu (α:=(RowG Int)) (xs:=List.set rs ((e_ es k).u).toNat (⟨ax,av,((e_ rs<|(e_ es k).u).xs++([(e_ es k).v]:List Int))⟩:RowG Int)) (e:=22) (new:=(⟨a0,aq,((e_ rs<|(e_ es k).v).xs++([(e_ es k).u]:List Int))⟩:RowG Int)) ty22 C C C om (by first|omega|(rw [List.length_set];omega)) am) ?_
    rintro _ _ ⟨rfl,rfl⟩
    refine ⟨FitW,?_⟩
    exact Dz<|Aj<|Ah<|Ao (S4 3 12 13 14 C C C C)<|Ar<|Gr (Rad C C)<|Gm C<|Bj<|B3 ((k+1),(List.set (List.set rs ((e_ es k).u).toNat (⟨ax,av,((e_ rs<|(e_ es k).u).xs++([(e_ es k).v]:List Int))⟩:RowG Int)) ((e_ es k).v).toNat (⟨a0,aq,((e_ rs<|(e_ es k).v).xs++([(e_ es k).u]:List Int))⟩:RowG Int)))<|by dsimp only;exact ⟨om,(hR.push om om _ _ _ _)⟩
   refine D1 C (Bn C) (Cf (α:=Int) (cs:=[_]) (xs:=[(e_ es k).u]) Ab ef C C dc dc C C C C) ?_
   rintro _ _ ⟨a8,rfl,rfl⟩
   refine ⟨FitW,?_⟩
   refine E3 (rs:=[14]) kr C C<|Ei ?_
   refine D1 C (Bn C) (Cg (α:=Int) (e:=3) (xs:=(e_ rs<|(e_ es k).u).xs) (ys:=([(e_ es k).v]:List Int)) Ab ef C C C Mmp Bf ay dc C<|λ_ _=>Atp) ?_
   rintro _ _ ⟨ah,ai,rfl,rfl⟩
   refine ⟨FitW,?_⟩
   refine E3 (rs:=[23]) kr C C<|Ei ?_
   refine D1 C (Bn C) (Cg (α:=Int) (e:=3) (xs:=(e_ rs<|(e_ es k).v).xs) (ys:=([(e_ es k).u]:List Int)) Ab ef C C C Mmp Bf aw dc C<|λ_ _=>Atp) ?_
   rintro _ _ ⟨ao,ap,rfl,rfl⟩
   refine ⟨FitW,?_⟩
   refine D2.read 24 C kr kr kr C kr (λ_ _ _ _ h=>h) (Bn C) C C FitW (Runs.idxs (RowG Int) Cl ty22 C C (Z om) om om) ?_
   refine D2.stop kr ?_
   refine Ds1 25<|Se C (Cu (α:=(RowG Int)) (xs:=rs) (e:=22) (new:=(⟨ah,ai,((e_ rs<|(e_ es k).u).xs++([(e_ es k).v]:List Int))⟩:RowG Int)) ty22 C C C om (by first|omega|(rw [List.length_set];omega)) am) ?_
   rintro _ _ ⟨rfl,rfl⟩
   refine ⟨FitW,?_⟩
   refine Ea 26 C kr kr kr C kr (λ_ _ _ _ h=>h) (Bn C) C C FitW (Runs.idxs (RowG Int) Cl ty22 C C (Z om) om om) ?_
   refine Ds1 27<|Se C (Cu (α:=(RowG Int)) (xs:=List.set rs ((e_ es k).u).toNat (⟨ah,ai,((e_ rs<|(e_ es k).u).xs++([(e_ es k).v]:List Int))⟩:RowG Int)) (e:=22) (new:=(⟨ao,ap,((e_ rs<|(e_ es k).v).xs++([(e_ es k).u]:List Int))⟩:RowG Int)) ty22 C C C om (by first|omega|(rw [List.length_set];omega)) am) ?_
   rintro _ _ ⟨rfl,rfl⟩
   refine ⟨FitW,?_⟩
   exact Dz<|Aj<|Ah<|Ao (S4 3 12 13 14 C C C C)<|Ar<|Gr (Rad C C)<|Gm C<|Bj<|B3 ((k+1),(List.set (List.set rs ((e_ es k).u).toNat (⟨ah,ai,((e_ rs<|(e_ es k).u).xs++([(e_ es k).v]:List Int))⟩:RowG Int)) ((e_ es k).v).toNat (⟨ao,ap,((e_ rs<|(e_ es k).v).xs++([(e_ es k).u]:List Int))⟩:RowG Int)))<|by dsimp only;exact ⟨om,(hR.push om om _ _ _ _)⟩
  refine D1 C (Bn C) (Cf (α:=Int) (cs:=[_]) (xs:=[(e_ es k).u]) Ab ef C C dc dc C C C C) ?_
  rintro _ _ ⟨bc,rfl,rfl⟩
  refine ⟨FitW,?_⟩
  refine E3 (rs:=[13]) kr C C<|Ei ?_
  refine D1 C (Bn C) (Cf (α:=Int) (cs:=[_]) (xs:=[(e_ es k).v]) Ab ef C C dc dc C C C C) ?_
  rintro _ _ ⟨bb,rfl,rfl⟩
  refine ⟨FitW,?_⟩
  refine E3 (rs:=[14]) kr C C<|Ei ?_
  refine D1 C (Bn C) (Cg (α:=Int) (e:=3) (xs:=(e_ rs<|(e_ es k).u).xs) (ys:=([(e_ es k).v]:List Int)) Ab ef C C C Mmp Bf ay dc C<|λ_ _=>Atp) ?_
  rintro _ _ ⟨ae,ad,rfl,rfl⟩
  refine ⟨FitW,?_⟩
  refine E3 (rs:=[23]) kr C C<|Ei ?_
  refine D1 C (Bn C) (Cg (α:=Int) (e:=3) (xs:=(e_ rs<|(e_ es k).v).xs) (ys:=([(e_ es k).u]:List Int)) Ab ef C C C Mmp Bf aw dc C<|λ_ _=>Atp) ?_
  rintro _ _ ⟨an,ar,rfl,rfl⟩
  refine ⟨FitW,?_⟩
  refine D2.read 24 C kr kr kr C kr (λ_ _ _ _ h=>h) (Bn C) C C FitW (Runs.idxs (RowG Int) Cl ty22 C C (Z om) om om) ?_
  refine D2.stop kr ?_
  refine Ds1 25<|Se C (Cu (α:=(RowG Int)) (xs:=rs) (e:=22) (new:=(⟨ae,ad,((e_ rs<|(e_ es k).u).xs++([(e_ es k).v]:List Int))⟩:RowG Int)) ty22 C C C om (by first|omega|(rw [List.length_set];omega)) am) ?_
  rintro _ _ ⟨rfl,rfl⟩
  refine ⟨FitW,?_⟩
  refine Ea 26 C kr kr kr C kr (λ_ _ _ _ h=>h) (Bn C) C C FitW (Runs.idxs (RowG Int) Cl ty22 C C (Z om) om om) ?_
  refine Ds1 27<|Se C (Cu (α:=(RowG Int)) (xs:=List.set rs ((e_ es k).u).toNat (⟨ae,ad,((e_ rs<|(e_ es k).u).xs++([(e_ es k).v]:List Int))⟩:RowG Int)) (e:=22) (new:=(⟨an,ar,((e_ rs<|(e_ es k).v).xs++([(e_ es k).u]:List Int))⟩:RowG Int)) ty22 C C C om (by first|omega|(rw [List.length_set];omega)) am) ?_
  rintro _ _ ⟨rfl,rfl⟩
  refine ⟨FitW,?_⟩
  exact Dz<|Aj<|Ah<|Ao (S4 3 12 13 14 C C C C)<|Ar<|Gr (Rad C C)<|Gm C<|Bj<|B3 ((k+1),(List.set (List.set rs ((e_ es k).u).toNat (⟨ae,ad,((e_ rs<|(e_ es k).u).xs++([(e_ es k).v]:List Int))⟩:RowG Int)) ((e_ es k).v).toNat (⟨an,ar,((e_ rs<|(e_ es k).v).xs++([(e_ es k).u]:List Int))⟩:RowG Int)))<|by dsimp only;exact ⟨om,(hR.push om om _ _ _ _)⟩
 refine Bs<|Al<|Al<|A2<|Ah<|Aq<|Af<|Gm C ?_
 have au:RowsI nd es rs:=by rw [List.take_of_length_le om] at hR;exact hR
 refine Gr (Bh Cl C)<|Gm C<|Ac<|Aw<|Bu (σ:=Nat×(List<|RowG Int)) (λs=>([(3,.slice M (replicate nd.toNat (default:(RowG Int))).length aa),(45,.slice M (replicate nd.toNat (default:(RowG Int))).length aa),(46,e7<|(((replicate nd.toNat (default:(RowG Int))).length:Nat):Int)),(47,e7 ((s.1:Nat):Int))]:Env)) (λs=>vc 22 (.slice M (replicate nd.toNat (default:(RowG Int))).length aa) (rs)::e8 b1 [e7 nd,va] 38::(ownR 3 s.2++I)) (λs=>(s.1<=rs.length)/\(SortI nd rs s.2 s.1)) (λs=>rs.length - s.1) (0,rs) (show ((0:Nat)<=rs.length)/\(SortI nd rs (rs:List (RowG Int)) (0:Nat)) from ⟨om,(SortI.start nd rs)⟩) (Aa C<|Aa C<|Aa C<|Aa B2 Bi) (show Fit κ _ (vc 22 (.slice M (replicate nd.toNat (default:(RowG Int))).length aa) (rs)::e8 b1 [e7 nd,va] 38::(ownR 3 (rs)++I)) from Bc) ?_
 rintro ⟨k2,ab⟩ hp
 dsimp only at hp ⊢
 obtain ⟨bj,aj⟩:=hp
 have bp:=aj.len
 refine Af<|Gr (A4 C C)<|Ac<|Aq<|A5 C (λa1=>?_)<|λa1=>?_
 ·refine Av (Ah<|Aq<|Aw<|Af<|Gr (Ax (α:=(RowG Int)) (xs:=rs) Cl ty22 C C Bf om om)<|Gr (B7 (α:=(RowG Int)) (xs:=rs) (u:= .slice (e_ rs k2).a (e_ rs k2).xs.length (e_ rs k2).c) ty22 C Bf om om C)<|Ga C<|Ac<|Ar<|Gm C<|G.e (Ak c_ C C<|eu.at_ow (A:=[vc 22 (.slice M (replicate nd.toNat (default:(RowG Int))).length aa) rs,e8 b1 [e7 nd,va] 38]) (I:=I) (rs:=ab) (i:=(k2:Int)) (x:=(e_ rs k2)) (aj.rest _ (Int.le_refl _) om) om om<|by rw [au.row _ om om];have:=nbL_len es (k2:Int);omega) ?_)
  rintro _ _ ⟨_,_,⟨R922,rfl,ak,rfl⟩,rfl,rfl⟩
  refine Eh (J:=vc 22 (.slice M (replicate nd.toNat (default:(RowG Int))).length aa) (rs)::e8 b1 [e7 nd,va] 38::(ownR 3 (List.set ab ((k2:Int)).toNat ⟨(e_ rs k2).a,(e_ rs k2).c,sortZ (e_ rs k2).xs⟩)++I)) (C2 ak) ?_
  exact Bj<|Aj<|Ah<|Ar<|Gr (Rad C C)<|Gm C<|Bj<|B3 ((k2+1),((List.set ab ((k2:Int)).toNat ⟨(e_ rs k2).a,(e_ rs k2).c,sortZ (e_ rs k2).xs⟩)))<|by dsimp only;exact ⟨om,(aj.step om)⟩
 refine Bs<|Al<|Al<|A2<|Ah<|Af<|Gm C<|Ga C<|Ac<|Az ?_
 have a5:=aj.all hG au om
 have az:(replicate nd.toNat (default:(RowG Int))).length=rs.length:=by have:=au.len;omega
 exact A1 C C (vc 22 (.slice M rs.length aa) rs::(ownR 3 ab++I)) (by rw [←az];exact Bc) ⟨M,aa,rs,ab,by rw [←az],a5,rfl⟩
section
variable {nd:Int}{es:List Pt}{X S Y:List Int}{v:Int}
theorem edgeP_comm(u v:Int):edgeP u v=edgeP v u:=by
 unfold edgeP
 rcases Int.lt_trichotomy u v with h|h|h
 ·rw [if_neg om,if_pos h,if_pos h,if_neg om]
 ·subst h;rfl
 rw [if_pos h,if_neg om,if_neg om,if_pos h]
end
section
variable {nd:Int}{es:List Pt}
theorem edgeP_inj{a b c d:Int}(h:edgeP a b=edgeP c d):(a=c/\b=d)\/(a=d/\b=c):=by
 unfold edgeP at h
 rw [Df] at h
 simp only at h
 obtain ⟨Z,M⟩:=h
 repeat (first|omega|split at Z|split at M)
theorem edgeP_self{e:Pt}(h:e.u<e.v):edgeP e.u e.v=e:=by
 unfold edgeP
 rw [if_neg om,if_pos h]
theorem mem_commonE(Z:GrOk nd es){u v:Int}(h:u≠v):w∈commonG nd es u v↔edgeP u w∈es/\edgeP v w∈es:=by
 have M:∀x:Int,w∈nbG nd es x↔edgeP x w∈es:=λx=>by
  unfold nbG
  rw [if_neg (by rw [checkG_ok.2 Z];decide),mem_ofL,mem_nbL]
  constructor
  ·rintro (h|h)
   ·have:=(Z.edge _ h).2.1
    rw [←edgeP_self this] at h;exact h
   have:=(Z.edge _ h).2.1
   rw [←edgeP_self this,edgeP_comm] at h;exact h
  intro h
  have hlt:=(Z.edge _ h).2.1
  rcases Int.lt_trichotomy x w with h1|h1|h1
  ·have e:edgeP x w=⟨x,w⟩:=edgeP_self (e:=⟨x,w⟩) h1
   exact .inl<|e▸h
  ·subst h1;unfold edgeP at hlt;simp at hlt
  have e:edgeP x w=⟨w,x⟩:=by rw [edgeP_comm];exact edgeP_self (e:=⟨w,x⟩) h1
  exact .inr<|e▸h
 unfold commonG
 rw [if_neg h,mem_meetL,M,M]
theorem edge_ne(Z:GrOk nd es){u:Int}(h:edgeP u w∈es):u≠w:=λe=>by
 subst e
 have:=(Z.edge _ h).2.1
 unfold edgeP at this;simp at this
theorem idx_at(M:GrOk nd es){e:Pt}(h:e∈es):(es.idxOf e)<es.length/\e_ es ((es.idxOf e:Nat):Int)=e:=by
 have Z:=List.idxOf_lt_length_of_mem h
 exact ⟨Z,by rw [Cn _ _ Z];exact List.getElem_idxOf Z⟩
theorem idx_eq(hG:GrOk nd es){i:Nat}(h:i<es.length):es.idxOf (e_ es i)=i:=by
 have hm:=B1 (xs:=es) (i:=(i:Int)) om om
 obtain ⟨Z,M⟩:=idx_at hG hm
 generalize es.idxOf (e_ es i)=k at Z M
 have hn:=Fb hG.asc
 rw [Cn _ _ Z,Cn _ i h] at M
 rcases Nat.lt_trichotomy k i with h3|h3|h3
 ·exact absurd M<|(List.pairwise_iff_getElem.1 hn) k i Z h h3
 ·exact h3
 exact absurd M.symm<|(List.pairwise_iff_getElem.1 hn) i k h Z h3
theorem idx_inj(Z:GrOk nd es){e f:Pt}(he:e∈es)(M:f∈es)(h:es.idxOf e=es.idxOf f):e=f:=by
 rw [←(idx_at Z he).2,←(idx_at Z M).2,h]
theorem tri_at(Z:0<=i)(M:i<es.length):e_ (trisE nd es) i=triE nd es (e_ es i):=by
 obtain ⟨k,rfl⟩:=Int.eq_ofNat_of_zero_le Z
 unfold trisE
 rw [Cn _ k (by rw [List.length_map];omega),Cn _ k om,List.getElem_map]
theorem mem_triE(M:GrOk nd es){e:Pt}(he:e∈es){p:Pt}:p∈triE nd es e↔∃w,edgeP e.u w∈es/\edgeP e.v w∈es/\p=⟨((es.idxOf (edgeP e.u w):Nat):Int),((es.idxOf (edgeP e.v w):Nat):Int)⟩:=by
 have hlt:=(M.edge e he).2.1
 unfold triE
 rw [List.mem_map]
 constructor
 ·rintro ⟨w,hw,rfl⟩
  obtain ⟨Z,h2⟩:=(mem_commonE M om).1 hw
  exact ⟨w,Z,h2,rfl⟩
 rintro ⟨w,Z,h2,rfl⟩
 exact ⟨w,(mem_commonE M om).2 ⟨Z,h2⟩,rfl⟩
theorem triS_iff(M:GrOk nd es)(Z:edgeP x y∈es)(hx:edgeP x w∈es)(hy:edgeP y w∈es):TriS (trisE nd es) ((es.idxOf (edgeP x y):Nat):Int) ((es.idxOf (edgeP x w):Nat):Int) ((es.idxOf (edgeP y w):Nat):Int):=by
 obtain ⟨h1,h2⟩:=idx_at M Z
 unfold TriS
 rw [tri_at om om,h2,mem_triE M Z,mem_triE M Z]
 rcases Int.lt_trichotomy x y with h|h|h
 ·have e:edgeP x y=⟨x,y⟩:=edgeP_self (e:=⟨x,y⟩) h
  rw [e]
  exact .inl ⟨w,hx,hy,rfl⟩
 ·exact absurd h<|edge_ne M Z
 have e:edgeP x y=⟨y,x⟩:=by rw [edgeP_comm];exact edgeP_self (e:=⟨y,x⟩) h
 rw [e]
 exact .inr ⟨w,hy,hx,rfl⟩
theorem triG(Z:GrOk nd es):TriG (trisE nd es):=by
 have hl:(trisE nd es).length=es.length:=List.length_map ..
 refine ⟨λi h0 M p hp=>?_,λi a b h0 M hT=>?_,λi h0 M=>?_⟩
 ·rw [hl] at M
  have he:=B1 h0 M
  have hlt:=(Z.edge _ he).2.1
  rw [tri_at h0 M,mem_triE Z he] at hp
  obtain ⟨w,hu,hv,rfl⟩:=hp
  have a1:=(idx_at Z hu).1
  have a2:=(idx_at Z hv).1
  have n1:=edge_ne Z hu
  have n2:=edge_ne Z hv
  have hi:es.idxOf (e_ es i)=i.toNat:=by
   obtain ⟨k,rfl⟩:=Int.eq_ofNat_of_zero_le h0
   rw [idx_eq Z om];simp
  refine ⟨by simp only;omega,λe=>?_,λe=>?_,λe=>?_⟩
  ·have:=edgeP_inj (idx_inj Z hu hv<|by simp only at e;omega);omega
  ·have h3:=idx_inj Z hu he (by simp only at e;omega)
   rw [←edgeP_self hlt] at h3
   have:=edgeP_inj h3;omega
  have h3:=idx_inj Z hv he (by simp only at e;omega)
  rw [←edgeP_self hlt] at h3
  have:=edgeP_inj h3;omega
 ·rw [hl] at M
  have he:=B1 h0 M
  have hlt:=(Z.edge _ he).2.1
  have hi:i=((es.idxOf (edgeP (e_ es i).u (e_ es i).v):Nat):Int):=by
   rw [edgeP_self hlt]
   obtain ⟨k,rfl⟩:=Int.eq_ofNat_of_zero_le h0
   rw [idx_eq Z om]
  have ab:edgeP (e_ es i).u (e_ es i).v∈es:=by rw [edgeP_self hlt];exact he
  unfold TriS at hT
  rw [tri_at h0 M,mem_triE Z he,mem_triE Z he] at hT
  rcases hT with ⟨w,hu,hv,e⟩|⟨w,hu,hv,e⟩
  ·rw [Df] at e
   obtain ⟨e1,e2⟩:=e
   simp only at e1 e2
   rw [e1,e2]
   have:=triS_iff Z (x:=(e_ es i).u) (y:=w) (w:=(e_ es i).v) hu ab (by rw [edgeP_comm];exact hv)
   rw [edgeP_comm w,←hi] at this;exact this
  rw [Df] at e
  obtain ⟨e1,e2⟩:=e
  simp only at e1 e2
  rw [e1,e2]
  have:=triS_iff Z (x:=(e_ es i).v) (y:=w) (w:=(e_ es i).u) hv (by rw [edgeP_comm];exact ab) (by rw [edgeP_comm];exact hu)
  rw [edgeP_comm w,edgeP_comm (e_ es i).v (e_ es i).u,←hi] at this;exact this
 rw [hl] at M
 have he:=B1 h0 M
 have hlt:=(Z.edge _ he).2.1
 rw [tri_at h0 M]
 unfold triE
 have aa:(commonG nd es (e_ es i).u (e_ es i).v).Pairwise (λx0 x1:Int=>x0<x1):=by
  unfold commonG;split
  ·exact List.Pairwise.nil
  unfold meetL;exact (ofL_asc _).sublist List.filter_sublist
 refine List.pairwise_map.2<|List.Pairwise.imp_of_mem (fun {w z} hw hz ad=>?_) aa
 obtain ⟨w1,w2⟩:=(mem_commonE Z om).1 hw
 obtain ⟨z1,z2⟩:=(mem_commonE Z om).1 hz
 have q1:=edge_ne Z w1
 have q2:=edge_ne Z w2
 have q3:=edge_ne Z z1
 have q4:=edge_ne Z z2
 refine ⟨λe=>?_,λe=>?_,λe=>?_,λe=>?_⟩
 ·have:=edgeP_inj (idx_inj Z w1 z1<|by simp only at e;omega);omega
 ·have:=edgeP_inj (idx_inj Z w1 z2<|by simp only at e;omega);omega
 ·have:=edgeP_inj (idx_inj Z w2 z1<|by simp only at e;omega);omega
 have:=edgeP_inj (idx_inj Z w2 z2<|by simp only at e;omega);omega
end
section
variable {nd:Int}{es es':List Pt}{u v:Int}
def triP(nd:Int)(es:List Pt)(e:Pt):List (Pt×Pt):=(commonG nd es e.u e.v).map λw=>(edgeP e.u w,edgeP e.v w)
def trusT(nd:Int)(es:List Pt)(e:Pt):Nat:=(e_ (trussG nd es) ((es.idxOf e:Nat):Int)).toNat
theorem trussG_eq(Z:GrOk nd es):trussG nd es=trussN (trisE nd es):=if_neg (by rw [checkG_ok.2 Z];decide)
theorem triP_in(Z:GrOk nd es){e:Pt}(he:e∈es):∀p∈triP nd es e,p.1∈es/\p.2∈es:=λp hp=>by
 obtain ⟨w,M,rfl⟩:=List.mem_map.1 hp
 exact common_mem Z he M
theorem trusT_is(M:GrOk nd es):IsTr (λe=>e∈es) (triP nd es) (trusT nd es):=by
 have h1:=trussE_is (triG M) (trussE (triG M)<|tris_ok M)
 have hl:(trisE nd es).length=es.length:=List.length_map ..
 have h2:=h1.move (E:=λe=>e∈es) (tri:=triP nd es) (λe=>((es.idxOf e:Nat):Int)) (λe Z=>by have:=List.idxOf_lt_length_of_mem Z;constructor<;>omega) (λe e' Z aa h=>idx_inj M Z aa om)
  (λb hb=>⟨e_ es b,B1 hb.1 om,by
   obtain ⟨k,rfl⟩:=Int.eq_ofNat_of_zero_le hb.1
   show ((es.idxOf (e_ es k):Nat):Int)=(k:Int)
   rw [idx_eq M om]⟩)
  (λe Z=>triP_in M Z) (λe Z=>by
   have hlt:=List.idxOf_lt_length_of_mem Z
   unfold triI triP
   rw [tri_at om om,(idx_at M Z).2]
   unfold triE
   rw [List.map_map,List.map_map]
   rfl)
 intro e Z k
 have:=h2 e Z k
 unfold trusT
 rw [trussG_eq M]
 exact this
theorem cntX_triP(X:Pt->Bool)(e:Pt):cntX (triP nd es) X e=((commonG nd es e.u e.v).filter λw=>X (edgeP e.u w)&&X (edgeP e.v w)).length:=by
 unfold cntX triP
 rw [List.filter_map,List.length_map]
 rfl
theorem common_nodup(nd:Int)(es:List Pt)(x y:Int):(commonG nd es x y).Nodup:=by
 unfold commonG
 split
 ·exact List.nodup_nil
 unfold meetL;exact ((ofL_asc _).imp λh=>by omega:(ofL<|nbG nd es x).Nodup).filter _
theorem OneE.cnt(h:OneE nd es es' u v){e:Pt}(he:e∈es')(ad:e≠edgeP u v){X Y:Pt->Bool}(ab:∀f,X f=true->f≠edgeP u v->Y f=true):cntX (triP nd es') X e<=cntX (triP nd es) Y e+1:=by
 have ae:=h.ok'.edge e he
 rw [cntX_triP,cntX_triP]
 have aa:=h.ends
 unfold endsP at aa
 have h1:∀w∈(commonG nd es' e.u e.v).filter (λw=>X (edgeP e.u w)&&X (edgeP e.v w)),w∈(if e.u=u then v else if e.u=v then u else if e.v=u then v else u)::(commonG nd es e.u e.v).filter λw=>Y (edgeP e.u w)&&Y (edgeP e.v w):=λw hw=>by
  obtain ⟨w1,w2⟩:=List.mem_filter.1 hw
  obtain ⟨w3,w4⟩:=and_t.1 w2
  obtain ⟨m1,m2⟩:=(mem_commonE h.ok' om).1 w1
  by_cases q:edgeP e.u w≠edgeP u v/\edgeP e.v w≠edgeP u v
  ·refine List.mem_cons_of_mem _ (List.mem_filter.2 ⟨(mem_commonE h.ok om).2 ⟨?_,?_⟩,and_t.2 ⟨ab _ w3 q.1,ab _ w4 q.2⟩⟩)
   ·exact ((h.mem _).1 m1).resolve_right q.1
   exact ((h.mem _).1 m2).resolve_right q.2
  have two:∀a b:Int,edgeP a b=edgeP u v->(a=u/\b=v)\/(a=v/\b=u):=λa b Z=>by
   rw [Df] at Z
   unfold edgeP at Z
   simp only at Z
   split at Z<;>split at Z<;>split at Z<;>split at Z<;>omega
  have M:¬((e.u=u/\e.v=v)\/(e.u=v/\e.v=u)):=λq2=>ad (by
   rw [Df]
   unfold edgeP
   simp only
   split<;>split<;>omega)
  have:w=if e.u=u then v else if e.u=v then u else if e.v=u then v else u:=by
   have q':edgeP e.u w=edgeP u v\/edgeP e.v w=edgeP u v:=Classical.byContradiction λq3=>q ⟨λq4=>q3<|.inl q4,λq4=>q3<|.inr q4⟩
   rcases q' with q'|q'
   ·rcases two _ _ q' with ⟨a,b⟩|⟨a,b⟩
    ·rw [if_pos a];exact b
    rw [if_neg om,if_pos a];exact b
   rcases two _ _ q' with ⟨a,b⟩|⟨a,b⟩
   ·by_cases c1:e.u=u
    ·omega
    by_cases c2:e.u=v
    ·exact absurd (.inr ⟨c2,a⟩) M
    rw [if_neg c1,if_neg c2,if_pos a];exact b
   by_cases c1:e.u=u
   ·exact absurd (.inl ⟨c1,a⟩) M
   by_cases c2:e.u=v
   ·omega
   rw [if_neg c1,if_neg c2,if_neg om];exact b
  rw [this];exact List.mem_cons_self
 have:=List.Nodup.length_le_of_subset ((common_nodup nd es' e.u e.v).filter _) h1
 simpa using this
theorem OneE.cnt_le(h:OneE nd es es' u v){e:Pt}(he:e∈es)(X:Pt->Bool):cntX (triP nd es) X e<=cntX (triP nd es') X e:=by
 have aa:=h.ok.edge e he
 rw [cntX_triP,cntX_triP]
 refine List.Nodup.length_le_of_subset ((common_nodup nd es e.u e.v).filter _) λw M=>?_
 obtain ⟨w1,w2⟩:=List.mem_filter.1 M
 obtain ⟨m1,Z⟩:=(mem_commonE h.ok om).1 w1
 exact List.mem_filter.2 ⟨(mem_commonE h.ok' om).2 ⟨(h.mem _).2 (.inl m1),(h.mem _).2 (.inl Z)⟩,w2⟩
theorem OneE.truss(h:OneE nd es es' u v){e:Pt}(he:e∈es):trusT nd es e<=trusT nd es' e/\trusT nd es' e<=trusT nd es e+1:=by
 have M:e≠edgeP u v:=λq=>h.no (q▸he)
 exact ⟨tr_del (trusT_is h.ok') (trusT_is h.ok) (λf Z=>(h.mem f).2 (.inl Z)) (λf Z X=>h.cnt_le Z X) he,
  tr_ins (trusT_is h.ok) (trusT_is h.ok') (edgeP u v) (λf Z hn=>((h.mem f).1 Z).resolve_right hn) (λf Z hn X Y aa=>h.cnt Z hn aa) ((h.mem e).2 (.inl he)) M⟩
theorem OneE.truss_new(h:OneE nd es es' u v):trusT nd es' (edgeP u v)<=(commonG nd es' u v).length:=by
 have hm:edgeP u v∈es':=(h.mem _).2 (.inr rfl)
 obtain ⟨X,h1,h2⟩:=(trusT_is h.ok' _ hm _).1 (Nat.le_refl _)
 have h3:=h1.deg _ h2
 rw [cntX_triP] at h3
 refine Nat.le_trans h3<|Nat.le_trans (List.length_filter_le _ _) ?_
 have aa:u≠v:=by have:=h.ends;unfold endsP at this;omega
 refine List.Nodup.length_le_of_subset (common_nodup _ _ _ _) λw hw=>?_
 have hu:(edgeP u v).u≠(edgeP u v).v:=by have:=h.ok'.edge _ hm;omega
 obtain ⟨M,Z⟩:=(mem_commonE h.ok' hu).1 hw
 rw [mem_commonE h.ok' aa]
 rcases edgeP_of h.ends with ⟨q,_⟩|⟨q,_⟩
 ·rw [q] at M Z;exact ⟨M,Z⟩
 rw [q] at M Z;exact ⟨Z,M⟩
end
end Go.Sl
