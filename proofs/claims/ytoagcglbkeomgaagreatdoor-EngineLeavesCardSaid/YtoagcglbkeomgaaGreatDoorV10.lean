/- A part of the proofs of statements of this seat: contracts of functions, and the plain laws that they lean on. No conditions. -/
import Derived.Test.YtoagcglbkeomgaaGreatDoorV9
set_option linter.unusedVariables false
set_option linter.unusedSimpArgs false
set_option linter.unusedSectionVars false
open Go.Proofs.Tryz (prog)
open List (replicate)
set_option maxHeartbeats 8000000
namespace Go.Sl
open Go.Proofs
set_option maxRecDepth 4000
variable {κ:Ctx}{I:List Item}
attribute [local irreducible] W G V D A j8 Eff
theorem an7{a:Option Addr}{c:Nat}{xs:List Pt}(hl:Sl κ I (.slice a xs.length c) xs)(hb:xs.length<=1000000000):eu prog κ 84 [.slice a xs.length c] I (λr J=>∃a' c',r = .slice a' xs.length c'/\J=vk 105 a' c' xs::I):=by
 refine Bv (p:=a.isNone=true->xs=[]/\c=0) (λw hs hn=>hl.isNone w hs hn) λM=>?_
 refine Ce1 Tryz.func84 C C<|Z ?_
 refine Gr (j8.dz6 Ay C C)<|Ar<|Dp C (λc4=>Z ?_)<|λc4=>Z ?_
 ·obtain ⟨ad,_⟩:=M c4
  subst ad
  exact Al C C (vk 105 none 0 ([]:List Pt)::I) (B7 _ _) ⟨none,0,rfl,rfl⟩
 refine Ge1 (Eff.bs0 (α:=Pt) Ay s8 C) λae=>?_
 refine Gm C<|Ge2 (Br (α:=Pt) (e:=105) (xs:=([]:List Pt)) (ys:=xs) Ay s8 C C C mm (A4 hl) tb3 dc C<|λ_ _=>am) λaa ab=>?_
 exact Ga C<|Ar<|B3<|Al C C (vk 105 aa ab xs::I) Ai ⟨aa,ab,rfl,rfl⟩
theorem gf6:∀M w,(callFunc 276 M).run prog w=((Extern.SlicesOverlaps.overlaps #[36,36] #[4] M).run prog w).andThen λv w'=> .ok (.value v) w':=λM w=>run_callFunc_extern (e:=Extern.SlicesOverlaps.overlaps #[36,36] #[4]) Tryz.func276 kr kr kr kr M w
theorem cz7{a va:Option Addr}{c M i:Nat}{xs ys:List Pt}(hi:i<=xs.length)(hy:0<ys.length)(ar:xs.length+ys.length<=1000000000):eu prog κ 269 [.slice a xs.length c,e7 ((i:Int)),.slice va ys.length M] (vc 105 (.slice a xs.length c) (xs)::vc 105 (.slice va ys.length M) (ys)::I) (λr J=>∃a' c',r = .slice a' (List.take i xs++ys++List.drop i xs).length c'/\J=vc 105 (.slice a' (List.take i xs++ys++List.drop i xs).length c') (List.take i xs++ys++List.drop i xs)::I):=by
 refine Bv (vc.cap A_) λap=>?_
 have ab:(List.take i xs++ys++List.drop i xs).length=xs.length+ys.length:=by simp only [By,Fp,Fx];omega
 refine Ce3 Tryz.func269 C C ?_
 refine Ak<|Ga C<|Ar<|Ak<|Gm C<|Gm C<|Gr (Dn (α:=Pt) (xs:=xs) (l:=i) Ay s8 C C om A5 lat)<|Ar<|Ak<|Gm C<|Gr (Bk Ay C)<|Ga C<|Ar<|Ax<|Ak<|Gm C<|Gr (Cx C C)<|Ar<|Am C (λah=>?_)<|λah=>?_
 ·exact absurd ah om
 refine Bc<|Ao<|Ak<|Gm C<|Gr (Bk Ay C)<|Ga C<|Ar<|A1 (S5 8 7 0 1 2)<|Ax<|Ak<|Gm C<|Gm C<|Gr (Cx C C)<|Ar<|Am C (λao=>?_)<|λao=>?_
 ·refine Ak (Gm C<|Gm C<|Ge2 (Br (α:=Pt) (e:=105) (xs:=xs) (ys:=ys) Ay s8 C C C mm A5 om dc C<|λ_ _=>am) λad ai=>?_)
  refine Ga C<|Ar<|B3<|Ck ?_
  have hR:List.take i xs++ys++List.drop i xs=xs++ys:=by rw [Fv om,Ha om,Gq]
  exact Al C C (vc 105 (.slice ad (List.take i xs++ys++List.drop i xs).length ai) (List.take i xs++ys++List.drop i xs)::I) (by rw [hR];exact Az) ⟨ad,ai,by rw [hR],rfl⟩
 refine Bc<|Ao<|Ax<|Ak<|Gm C<|Gm C<|Gr (Rad C C)<|Gm C<|Gr (j8.caps Ay C)<|Gr (Ed C C)<|Ar<|A1 (S6 31 8 7 0 1 2)<|Am C (λaj=>?_)<|λaj=>?_
 ·refine Ak (Gm C<|Gm C<|Gr (E2 (h:=i) Ay s8 C C om om)<|Gm C<|Gm C<|Gr (Rad C C)<|Gm C<|Gr (Rsu C C)<|Ge2 (Eff.grow (α:=Pt) (xs:=xs) (k:=xs.length+ys.length - i) Ay Cf s8 C C C om A5 om om om om dc C) λae aa=>?_)
  refine Ga C<|G.pull (p:=(List.take i xs++replicate (xs.length+ys.length - i) (default:Pt)).length<=aa) (vc.cap mm) λak=>?_
  have aq:(List.take i xs++replicate (xs.length+ys.length - i) (default:Pt)).length=xs.length+ys.length:=by simp only [By,Fp,Fy];omega
  refine Ar<|A1 (S5 9 7 0 1 2)<|Ak<|Gm C<|Gm C<|Gr (Dn (α:=Pt) (xs:=List.take i xs++replicate (xs.length+ys.length - i) (default:Pt)) (l:=i) Ay s8 C C om A5 lat)<|Gm C<|Ge0 (Fk (α:=Pt) (k:=i) (q:=ys.length) (R:=List.take i xs++ys++replicate (xs.length - i) (default:Pt)) (n:=(i+(xs.length+ys.length - i))) Ay s8 C lat C A5 lat lat C (gg7 hi) lat am) ?_
  refine Ar<|Ax<|Ba mixed<|Bx I 9<|Dr 0 C (Aq C)<|Dr 1 C (Aq C)<|Dr 2 C (Aq C)<|Dr 3 C (Rad C C)<|Dr 4 C (C2 (l:=(i+ys.length)) Ay s8 C C om om om)<|Dr 5 C (Aq C)<|Dr 6 C (Aq C)<|Dr 7 C (C2 (l:=i) Ay s8 C C om om om)<|Ds1 8<|Se0 C (Fk (α:=Pt) (k:=(i+ys.length)) (q:=(xs.length - i)) (R:=List.take i xs++ys++List.drop i xs) (n:=(i+(xs.length+ys.length - i))) Ay s8 C lat C (Sl.dz8 (Cz (xs:=xs) mm) om om) lat lat C (gg6 hi) lat am) ?_
  exact Dz<|Ao<|A1 (S1 9)<|Ak<|Gm C<|Ga C<|Ar<|B3<|Ck<|Al C C (vc 105 (.slice ae (List.take i xs++ys++List.drop i xs).length aa) (List.take i xs++ys++List.drop i xs)::I) (by rw [show (List.take i xs++ys++List.drop i xs).length=i+(xs.length+ys.length - i) by omega];exact Az) ⟨ae,aa,by rw [show (List.take i xs++ys++List.drop i xs).length=i+(xs.length+ys.length - i) by omega],rfl⟩
 refine Bc<|Ao<|Ak<|Gm C<|Gm C<|Gm C<|Gr (Rad C C)<|Gr (E2 (h:=xs.length+ys.length) Ay s8 C C om om)<|Ga C<|G.room (h:=xs.length+ys.length) ta1 C om om<|λjs an=>?_
 show G prog κ _ _ _ _ ([(0,.slice a (xs.length+ys.length) c),(60,.slice a (xs.length+ys.length) c),(59,e7<|((xs.length:Nat):Int)+((ys.length:Nat):Int)),(58,e7 ((ys.length:Nat):Int)),(57,e7 ((xs.length:Nat):Int)),(56,.slice a xs.length c),(31,.bool<|decide<|(c:Int)<(((xs.length:Nat):Int)+((ys.length:Nat):Int))),(8,e7 ((xs.length:Nat):Int)),(7,e7 ((ys.length:Nat):Int)),(0,.slice a xs.length c),(1,e7<|(i:Int)),(2,.slice va ys.length M)]:Env) (vec 105 (Enc.sz Pt) (.slice a (xs.length+ys.length) c) (xs.length+ys.length) (cells xs++js)::vc 105 (.slice va ys.length M) (ys)::I)
 refine Ar<|Ax<|Ak<|Gm C<|Gm C<|Gm C<|Gm C<|Gr (Rad C C)<|Gr (C2 (l:=(i+ys.length)) Ay s8 C C om om om)<|Ge0 (Eff.overlaps (k:=i+ys.length) gf6 Ay s8 C C om om om (show Fit κ _ (vc 105 (.slice va ys.length M) ys::vec 105 (Enc.sz Pt) (.slice a (xs.length+ys.length) c) (xs.length+ys.length) (cells xs++js)::I) from Fit.sp (Sp.pick (ab6.tail _<|ab6.head _ _)<|Sp.refl _)) (Nat.mul_pos om Enc.pos) C) ?_
 refine Gr (E3 C)<|Ar<|A1 (S6 68 0 8 7 1 2)<|W.yes C<|Ax<|Ba mixed<|Bx I 9<|Dr 0 C (Aq C)<|Dr 1 C (Aq C)<|Dr 2 C (Aq C)<|Dr 3 C (Rad C C)<|Dr 4 C (C2 (l:=(i+ys.length)) Ay s8 C C om om om)<|Dr 5 C (Aq C)<|Dr 6 C (Aq C)<|Dr 7 C (C2 (l:=i) Ay s8 C C om om om)<|Ds1 8<|Se0 C (Eff.cg2 (sz:=Enc.sz Pt) (n:=xs.length+ys.length) (cs:=(cells xs++js)) (k:=(i+ys.length)) (q:=(xs.length - i)) Ay s8 C om C (au7.dz9 (au7.vec mm) om) om om (ce9 hi) C am) ?_
 show D prog κ _ _ _ _ _ _ _ ([(77,e7<|(((xs.length - i):Nat):Int)),(76,.slice (N9 a c i<|Enc.sz Pt) ((xs.length+ys.length) - i)<|c - i),(75,e7<|(i:Int)),(74,.slice a (xs.length+ys.length) c),(73,.slice (N9 a c (i+ys.length)<|Enc.sz Pt) ((xs.length+ys.length) - (i+ys.length))<|c - (i+ys.length)),(72,e7<|(i:Int)+((ys.length:Nat):Int)),(71,e7 ((ys.length:Nat):Int)),(70,e7<|(i:Int)),(69,.slice a (xs.length+ys.length) c),(68,.bool true),(0,.slice a (xs.length+ys.length) c),(8,e7 ((xs.length:Nat):Int)),(7,e7 ((ys.length:Nat):Int)),(1,e7<|(i:Int)),(2,.slice va ys.length M)]:Env) (vec 105 (Enc.sz Pt) (.slice a (xs.length+ys.length) c) (xs.length+ys.length) (List.take ((i+ys.length)*Enc.sz Pt) (cells xs++js)++List.take ((xs.length - i)*Enc.sz Pt) (List.drop (i*Enc.sz Pt)<|cells xs++js)++List.drop ((i+ys.length)*Enc.sz Pt+(xs.length - i)*Enc.sz Pt) (cells xs++js))::vc 105 (.slice va ys.length M) (ys)::I)
 refine Dz<|Ao<|A1 (S3 0 1 2)<|Ak<|Gm C<|Gm C<|Gr (C2 (l:=i) Ay s8 C C om om om)<|Gm C<|Ge0 (Eff.cg2 (sz:=Enc.sz Pt) (n:=xs.length+ys.length) (cs:=(List.take ((i+ys.length)*Enc.sz Pt) (cells xs++js)++List.take ((xs.length - i)*Enc.sz Pt) (List.drop (i*Enc.sz Pt)<|cells xs++js)++List.drop ((i+ys.length)*Enc.sz Pt+(xs.length - i)*Enc.sz Pt) (cells xs++js))) (k:=i) (q:=ys.length) Ay s8 C om C (show Sl κ _ (.slice va ys.length M) ys from (Cz (e:=105) (xs:=ys) mm)) om om (λu hu=>cells_one ys u<|Hw hu) C am) ?_
 show G prog κ _ _ _ _ ([(82,e7 ((ys.length:Nat):Int)),(81,.slice va ys.length M),(80,.slice (N9 a c i<|Enc.sz Pt) ((xs.length+ys.length) - i)<|c - i),(79,e7<|(i:Int)),(78,.slice a (xs.length+ys.length) c),(0,.slice a (xs.length+ys.length) c),(1,e7<|(i:Int)),(2,.slice va ys.length M)]:Env) (vec 105 (Enc.sz Pt) (.slice a (xs.length+ys.length) c) (xs.length+ys.length) (List.take (i*Enc.sz Pt) (List.take ((i+ys.length)*Enc.sz Pt) (cells xs++js)++List.take ((xs.length - i)*Enc.sz Pt) (List.drop (i*Enc.sz Pt)<|cells xs++js)++List.drop ((i+ys.length)*Enc.sz Pt+(xs.length - i)*Enc.sz Pt) (cells xs++js))++List.take (ys.length*Enc.sz Pt) (cells ys)++List.drop (i*Enc.sz Pt+ys.length*Enc.sz Pt) (List.take ((i+ys.length)*Enc.sz Pt) (cells xs++js)++List.take ((xs.length - i)*Enc.sz Pt) (List.drop (i*Enc.sz Pt)<|cells xs++js)++List.drop ((i+ys.length)*Enc.sz Pt+(xs.length - i)*Enc.sz Pt) (cells xs++js)))::vc 105 (.slice va ys.length M) (ys)::I)
 refine Ar<|Ak<|Gm C<|Ga C<|Ar<|B3<|Ck ?_
 have hC:(List.take (i*Enc.sz Pt) (List.take ((i+ys.length)*Enc.sz Pt) (cells xs++js)++List.take ((xs.length - i)*Enc.sz Pt) (List.drop (i*Enc.sz Pt)<|cells xs++js)++List.drop ((i+ys.length)*Enc.sz Pt+(xs.length - i)*Enc.sz Pt) (cells xs++js))++List.take (ys.length*Enc.sz Pt) (cells ys)++List.drop (i*Enc.sz Pt+ys.length*Enc.sz Pt) (List.take ((i+ys.length)*Enc.sz Pt) (cells xs++js)++List.take ((xs.length - i)*Enc.sz Pt) (List.drop (i*Enc.sz Pt)<|cells xs++js)++List.drop ((i+ys.length)*Enc.sz Pt+(xs.length - i)*Enc.sz Pt) (cells xs++js)))=cells (List.take i xs++ys++List.drop i xs):=be8 hi an
 exact Al C C (vc 105 (.slice a (List.take i xs++ys++List.drop i xs).length c) (List.take i xs++ys++List.drop i xs)::I) (by rw [hC];show Fit κ _ (vec 105 _ (.slice a (List.take i xs++ys++List.drop i xs).length c) (List.take i xs++ys++List.drop i xs).length (cells<|List.take i xs++ys++List.drop i xs)::I);rw [ab];exact Az) ⟨a,c,by rw [ab],rfl⟩
end Go.Sl
namespace Go.Sl
open Go.Proofs
set_option maxRecDepth 4000
variable{c:Nat}{xs:List Int}
variable {κ:Ctx}{I:List Item}
theorem cj5{e:TypeId}{ad:Option Addr}(M:xs.length<4611686018427387904):eu prog κ 163 [.slice ad xs.length c] (vc e (.slice ad xs.length c) xs::I) λr J=>r = .tuple #[]/\J=vc e (.slice ad xs.length c) (V8 xs)::I:=
 (dd3 (κ:=κ) (I:=I) Tryz.ge9 (e:=e) (ad:=ad) (c:=c) M).mono λr J ⟨h1,h2⟩=>⟨h1,by rw [h2,ad6]⟩
theorem ah1{a:Option Addr}(hl:Sl κ I (.slice a xs.length c) xs)(hb:xs.length<=1000000000):eu prog κ 128 [.slice a xs.length c] I (λr J=>∃a' c',r = .slice a' xs.length c'/\J=vk 3 a' c' xs::I):=by
 refine Bv (p:=a.isNone=true->xs=[]/\c=0) (λw hs hn=>hl.isNone w hs hn) λM=>?_
 refine Ce1 Tryz.func128 C C ?_
 refine Ak<|Ga C<|Ar<|Ax<|Ak<|Gm C<|Gr (j8.dz6 Ab C C)<|Ar<|Dp C (λc4=>?_)<|λc4=>?_
 ·refine Ak (Ga C<|Ar<|B3<|Ck ?_)
  obtain ⟨ad,_⟩:=M c4
  subst ad
  exact Al C C (vk 3 none 0 ([]:List Int)::I) (B7 _ _) ⟨none,0,rfl,rfl⟩
 refine Bc<|Ao<|Ak<|Ge1 (Eff.bs0 (α:=Int) Ab ef C) λae=>?_
 refine Gm C<|Ge2 (Br (α:=Int) (e:=3) (xs:=([]:List Int)) (ys:=xs) Ab ef C C C mm (A4 hl) tb3 dc C<|λ_ _=>am) λaa ab=>?_
 exact Ga C<|Ar<|B3<|Al C C (vk 3 aa ab xs::I) Ai ⟨aa,ab,rfl,rfl⟩
end Go.Sl
namespace Go.Sl
open Go.Proofs
set_option maxRecDepth 4000
variable{a:Option Addr}{c i:Nat}{es xs ys:List Pt}{v va vb:Value}{nd:Int}
variable {κ:Ctx}{I:List Item}
attribute [local irreducible] W G V D A j8 Eff
theorem ay7:EqT prog 105 Pt:=EqT.flat (λp:Pt=>[p.u,p.v]) (λ_=>rfl) (λx y h=>by cases x;cases y;simpa using h) (n:=2) (λ_=>rfl) kr kr kr kr kr
theorem da0{j:Nat}(ae:i<j)(hj:j<=xs.length)(ad:xs.length<=1000000000):eu prog κ 274 [.slice a xs.length c,e7 ((i:Int)),e7 ((j:Int))] (vk 105 a c xs::I) (λr J=>r = .slice a (List.take i xs++List.drop j xs).length c/\vk 105 a c (List.take i xs++List.drop j xs)::I=J):=by
 refine Bv (vc.cap A_) λaa=>?_
 have ab:(List.take i xs++List.drop j xs).length=i+(xs.length - j):=by simp only [By,Fp,Fx];omega
 refine Ce3 Tryz.func274 C C<|Z ?_
 refine Gr (j8.gg2 (l:=i) (h:=j) (q:=xs.length) Ay s8 C C om C om C om om om om)<|Z ?_
 refine Am C (λM=>?_)<|λM=>Z ?_
 ·exact absurd M om
 refine Ba mixed<|Bx I 8<|Z ?_
 refine Dr 2 C (E2 (h:=i) Ay s8 C C om om)<|Z ?_
 refine Dr 5 C (C2 (l:=j) Ay s8 C C om om om)<|Ds1 6<|Se0 C (Eff.gi4 (α:=Pt) (xs:=xs) (i:=i) (j:=j) Ay s8 C C C om om om C am)<|Z ?_
 refine Gr (j8.fo0 (l:=(List.take i xs++List.drop j xs).length) (h:=xs.length) Ay s8 C C om C om om om)<|Ge0 (Eff.ga9 (α:=Pt) (xs:=(List.take i xs++List.drop j xs)) (k:=(List.take i xs++List.drop j xs).length) (h:=xs.length) Ay s8 (G7.cons C<|G7.cons C G7.nil) C C C C om om am)<|Z ?_
 exact Al C C _ (Dd _) ⟨rfl,rfl⟩
theorem fi0(hl:Sl κ I v xs)(x:Pt){g:FuncId}{aa:List Value}{cf:Pt->Pt->Int}(M:gd9 prog κ I g aa cf)(ao:xs.length<=1000000000000):eu prog κ 189 [v,.agg #[e7 (x.u),e7 (x.v)],.func (.func g) #[] aa.toArray] I (λr J=>∃i b,r = .tuple #[e7 ((i:Nat):Int),.bool b]/\U5 cf xs x i b/\I=J):=by
 refine Bv hl.le λak=>?_
 refine Ce3 Tryz.func189 C C ?_
 refine Ak<|Ge1 (Au (cs:=[_,_]) C C C) λb1=>Z ?_
 refine Dh (σ:=Nat×Nat) (λs=>[(9,e7 ((s.1:Nat):Int)),(10,e7 ((s.2:Nat):Int))]) (λ_=>[]) (λs=>(s.1<=s.2)/\(s.2<=xs.length)/\(0<s.1->cf (e_ xs<|(s.1:Int) - 1) x<0)/\(s.2<xs.length->¬cf (e_ xs s.2) x<0)) (λs=>s.2 - s.1) (0,xs.length) (show ((0:Nat)<=(xs.length:Nat))/\((xs.length:Nat)<=xs.length)/\(0<(0:Nat)->cf (e_ xs<|((0:Nat):Int) - 1) x<0)/\((xs.length:Nat)<xs.length->¬cf (e_ xs ((xs.length:Nat):Int)) x<0) from ⟨om,om,(λh=>absurd h dc),(λh=>absurd h om)⟩) ?_
 rintro ⟨i,j⟩ hp
 dsimp only at hp ⊢
 obtain ⟨an,hj,ah,ae⟩:=hp
 refine Z ?_
 refine Am C (λaj=>Z ?_)<|λaj=>Z ?_
 ·refine Gr (j8.ga4 Cf D5 C om) (Gr (j8.gj8 C C)<|Gr (j8.fa9 D5 Cf C<|by unfold InR;omega)<|Z ?_)
  refine Ba mixed<|Bx (e8 b1 [e7 (x.u),e7<|x.v] 105::I) 8<|Z ?_
  refine Ds1 6<|Se C (Cy M.1 (first:=[]) (caps:=aa) C C C<|M.2 (e_ xs<|((i:Int)+(j:Int)) / 2) x _ Ah) ?_
  rintro _ _ ⟨_,_,⟨rfl,rfl⟩,rfl,rfl⟩
  refine ⟨Ai,?_⟩
  refine Z ?_
  refine Am C (λad=>Z ?_)<|λad=>Z ?_
  ·exact Bt (((i+j) / 2+1),(j))<|by dsimp only;exact ⟨om,om,(λ_=>by rw [show (((i+j) / 2+1:Nat):Int) - 1=((i:Int)+(j:Int)) / 2 by omega];exact ad),ae⟩
  exact Bt ((i),((i+j) / 2))<|by dsimp only;exact ⟨om,om,ah,(λ_=>by rw [show (((i+j) / 2:Nat):Int)=((i:Int)+(j:Int)) / 2 by omega];exact ad)⟩
 refine Ba mixed<|Bx (e8 b1 [e7 (x.u),e7<|x.v] 105::I) 16<|Z ?_
 refine Dj (d:=39) C (λai=>Z ?_)<|λai=>?_
 ·refine Ds1 11 (Se C (Cy M.1 (first:=[]) (caps:=aa) C C C<|M.2 (e_ xs i) x _ Ah) ?_)
  rintro _ _ ⟨_,_,⟨rfl,rfl⟩,rfl,rfl⟩
  refine ⟨Ai,?_⟩
  refine Z ?_
  have ab:i=j:=by omega
  subst ab
  exact C3 C C C I Ah ⟨i,_,rfl,⟨hj,ah,ae,(Fs.2 ⟨λh=>⟨by omega,h⟩,λh=>h.2⟩)⟩,rfl⟩
 refine Dpo 5 C<|Z ?_
 have ab:i=j:=by omega
 subst ab
 exact C3 C C C I Ah ⟨i,_,rfl,⟨hj,ah,ae,((D_<|λh=>by omega).symm)⟩,rfl⟩
variable {κ:Ctx}{I:List Item}
theorem tb1{p:Prop}(h:p:=by unfold bt5;rw [B_ om]):p:=h
theorem V1(hl:Sl κ I v es):eu prog κ 86 [.agg #[e7 nd,v]] I (λr J=>r=e7 (F6 nd es)/\I=J):=by
 refine Bv hl.le λai=>?_
 refine Ce1 Tryz.func86 C C ?_
 refine Ak<|Ge1 (Au (cs:=[_,_]) C C C) λb1=>Z ?_
 refine A3 (d:=8) C (λg8=>Z ?_)<|λg8=>Z ?_
 ·exact Al C C I Ah ⟨by rw [show F6 nd es=1 from (by unfold F6;rw [B_ om])],rfl⟩
 refine Am C (λc12=>Z ?_)<|λc12=>Z ?_
 ·exact Al C C I Ah ⟨by rw [show F6 nd es=1 from (by unfold F6;rw [B_ om])],rfl⟩
 refine Dh (σ:=Nat) (λs=>[(16,e7 ((s:Nat):Int))]) (λ_=>[]) (λs=>(s<=es.length)/\(F6 nd es=P5 (bt5 nd) Pt.lt (R8 es s) (es.drop s))) (λs=>es.length - s) 0 (show ((0:Nat)<=es.length)/\(F6 nd es=P5 (bt5 nd) Pt.lt (R8 es (0:Nat)) (es.drop (0:Nat))) from ⟨om,(by unfold F6;rw [An om];rfl)⟩) ?_
 rintro k hp
 obtain ⟨hk,hs⟩:=hp
 refine Z ?_
 refine Am C (λM=>Z ?_)<|λM=>Z ?_
 ·refine Ge1 (Aj s8 C) λb2=>Ga C (Ge0 (Cs s8)<|Z ?_)
  refine A3 (d:=25) C (λab=>Z ?_)<|λab=>Z ?_
  ·exact Al C C I Ah ⟨by rw [show F6 nd es=6 from (hs.trans<|(C5 om<|by unfold bt5;rw [B_ om];decide).trans tb1)],rfl⟩
  refine A3 (d:=32) C (λad=>Z ?_)<|λad=>Z ?_
  ·exact Al C C I Ah ⟨by rw [show F6 nd es=6 from (hs.trans<|(C5 om<|by unfold bt5;rw [B_ om];decide).trans tb1)],rfl⟩
  refine Am C (λaa=>Z ?_)<|λaa=>?_
  ·exact Al C C I Ah ⟨by rw [show F6 nd es=6 from (hs.trans<|(C5 om<|by unfold bt5;rw [B_ om];decide).trans tb1)],rfl⟩
  refine Ax<|Ba mixed<|Bx (e8 b2 [e7 ((e_ es k).u),e7<|(e_ es k).v] 105::e8 b1 [e7 nd,v] 38::I) 14<|Z ?_
  refine Dj (d:=42) C (λah=>Z ?_)<|λah=>?_
  ·refine Ds1 10 (Se C (Ac c_ C C<|cq2 (e_ es<|(k:Int) - 1)<|e_ es k) ?_)
   rintro _ _ ⟨_,_,⟨rfl,rfl⟩,rfl,rfl⟩
   refine ⟨Ah,?_⟩
   refine Z ?_
   refine Am C (λae=>Z ?_)<|λae=>Z ?_
   ·exact Al C C I Ah ⟨by rw [show F6 nd es=5 from (hs.trans<|af4 om (W3.2 om) om (λh=>by have:=(Pt.W0 _ _).2 h;omega))],rfl⟩
   exact Bt ((k+1)) ⟨om,(hs.trans<|E0 om (W3.2 om)<|λh0=>by first|omega|exact (Pt.W0 _ _).1 om)⟩
  refine Dpo 3 C<|Z ?_
  exact Bt ((k+1)) ⟨om,(hs.trans<|E0 om (W3.2 om)<|λh0=>by first|omega|exact (Pt.W0 _ _).1 om)⟩
 exact Al C C I Ah ⟨by rw [show F6 nd es=0 from (hs.trans<|aq8 om)],rfl⟩
theorem ta6{p:Prop}(h:p:=by first|exact Fz Value.bool (Fs.2<|by unfold F5;omega)|exact Fz Value.bool (As<|by unfold F5;omega).symm|exact Fz Value.bool (D_<|by unfold F5;omega).symm):p:=h
theorem ci5(nd u v:Int):eu prog κ 267 [e7 nd,e7 u,e7 v] I (λr J=>r = .bool (decide (F5 nd u v))/\I=J):=by
 have ab:((if v<u then v else u)<=u/\(if v<u then v else u)<=v/\((if v<u then v else u)=u\/(if v<u then v else u)=v))/\(u<=(if u<v then v else u)/\v<=(if u<v then v else u)/\((if u<v then v else u)=u\/(if u<v then v else u)=v)):=by refine ⟨⟨?_,?_,?_⟩,⟨?_,?_,?_⟩⟩<;>split<;>omega
 refine Ce3 Tryz.func267 C C<|Z ?_
 refine A3 (d:=10) C (λM=>Z ?_)<|λM=>Z ?_
 ·refine A3 (d:=16) C (λaa=>Z ?_) (λaa=>Z ?_)
  ·exact Al C C I Ah ⟨ta6,rfl⟩
  exact Al C C I Ah ⟨ta6,rfl⟩
 exact Al C C I Ah ⟨ta6,rfl⟩
theorem cr1(u v:Int):eu prog κ 188 [e7 u,e7 v] I (λr J=>r = .agg #[e7 (j4 u v).u,e7 (j4 u v).v]/\I=J):=by
 refine Ce2 Tryz.func188 C C ?_
 refine Ak<|Ge1 (Aj s8 C) λb1=>Z ?_
 refine Ge0 (Cs s8) ?_
 exact Ar<|B3<|Ek C s8 C mm C I Ah ⟨rfl,rfl⟩
theorem cc8(hl:Sl κ I va es)(u v:Int):eu prog κ 268 [.agg #[e7 nd,va],e7 u,e7 v] I (λr J=>r=e7 (T7 nd es u v)/\I=J):=by
 refine Ce3 Tryz.func268 C C ?_
 refine Ak<|Ge1 (Au (cs:=[_,_]) C C C) λb1=>Z ?_
 refine Gc0 (Ac c_ C C<|V1<|A4 hl)<|Z ?_
 refine Am C (λc11=>Z ?_)<|λc11=>Z ?_
 ·exact Al C C I Ah ⟨by unfold T7;rw [B_ om],rfl⟩
 refine Gc0 (Ac c_ C C<|ci5 nd u v)<|Z ?_
 refine Am C (λM=>Z ?_)<|λM=>Z ?_
 ·exact Al C C I Ah ⟨by unfold T7;rw [An om,An asm],rfl⟩
 exact Al C C I Ah ⟨by unfold T7;rw [An om,B_<|Ft.1 asm],rfl⟩
theorem cy5:gd9 prog κ I 131 [] Pt.cmp:=⟨c_,λx y J M=>cq2 x y⟩
theorem bu1(hl:Sl κ I va es)(u v:Int)(hb:es.length<=1000000000):eu prog κ 172 [.agg #[e7 nd,va],e7 u,e7 v] I (λr J=>∃i q,r = .tuple #[e7 ((i:Nat):Int),.bool (decide (i<es.length/\e_ es ((i:Nat):Int)=(j4 u v)))]/\U5 Pt.cmp es (j4 u v) i q/\I=J):=by
 refine Bv hl.le λab=>?_
 refine Ce3 Tryz.func172 C C ?_
 refine Ak<|Ge1 (Au (cs:=[_,_]) C C C) λb1=>Z ?_
 refine Gc0 (Ac c_ C C<|cr1 u v) ?_
 refine Ge1 (Aj s8 C) λb2=>Ge0 (Cs s8)<|Z ?_
 refine G.e (Ac c_ C C<|fi0 (A4 hl) (j4 u v) cy5 om) ?_
 rintro _ _ ⟨_,_,⟨M,q4,rfl,hi3,rfl⟩,rfl,rfl⟩
 refine Z ?_
 refine Ba mixed<|Bx (e8 b2 [e7 ((j4 u v).u),e7<|(j4 u v).v] 105::e8 b1 [e7 nd,va] 38::I) 17<|Z ?_
 refine Dj (d:=27) C (λaa=>Z ?_)<|λaa=>?_
 ·refine Dro 13 C (j8.fu1 (α:=Pt) (a:=(e_ es M)) (b:=(j4 u v)) ay7 C C) (Z ?_)
  exact C3 C C C I Ah ⟨M,q4,Fz (λb_=>Value.tuple #[e7 (M:Int),.bool b_])<|Fs.2 ⟨λh=>⟨by omega,h⟩,λh=>h.2⟩,hi3,rfl⟩
 refine Dpo 7 C<|Z ?_
 exact C3 C C C I Ah ⟨M,q4,Fz (λb_=>Value.tuple #[e7 (M:Int),.bool b_]) (D_<|λh=>by omega).symm,hi3,rfl⟩
theorem ci1{va:Option Addr}{n m M:Nat}{K:List Item}(hf:Fit κ I (vc 105 (.slice a n c) xs::vc 105 (.slice va m M) ys::K))(hn:n=xs.length)(hm:m=ys.length)(hi:i<=xs.length)(hy:0<ys.length)(aa:xs.length+ys.length<=1000000000):eu prog κ 269 [.slice a n c,e7 (i:Int),.slice va m M] I (λr J=>∃a' c',r = .slice a' (List.take i xs++ys++List.drop i xs).length c'/\J=vk 105 a' c' (List.take i xs++ys++List.drop i xs)::K):=by
 subst hn hm
 exact Cm hf<|cz7 hi hy aa
theorem tb0{p:Prop}(h:p:=by simp only [E_];omega):p:=h
theorem ft7{nd:Int}{a0:Option Addr}{c0:Nat}{es:List Pt}(hl:Sl κ I (.slice a0 es.length c0) es)(u v:Int)(hb:es.length<=10000000):eu prog κ 261 [.agg #[e7 nd,.slice a0 es.length c0],e7 u,e7 v] I (λr J=>(db0 nd es u v≠0/\r = .tuple #[.agg #[e7 0,.slice none 0 0],e7 (db0 nd es u v)]/\I=J)\/(∃a c,db0 nd es u v=0/\r = .tuple #[.agg #[e7 nd,.slice a (z7 Pt.lt es (j4 u v)).length c],e7 0]/\J=vc 105 (.slice a (z7 Pt.lt es (j4 u v)).length c) (z7 Pt.lt es (j4 u v))::I)):=by
 refine Ce3 Tryz.func261 C C ?_
 refine Ak (Ge1 (Au (cs:=[_,_]) C C C) λb1=>Ge1 (Aj J8 C) λb2=>Ga C (Ar (Ax (Ak (Gl2 J8 ?_)))))
 refine Gm C (Gm C (Gc0 (Ac c_ C C (cc8 (A4 hl) u v)) ?_))
 refine Ga C (Ar (Ak (Gm C (Gr (Cb C C) (Ar (Am C (λc16=>?_) (λc16=>?_)))))))
 ·refine Ak (Gr (Cl (cells:=[_,_]) J8 Ex fx7 C C) (Gm C (Ge0 (Cs J8) ?_)))
  refine Ga C (Ar (A1 (S2 7 6 C C) (B3 (Ck ?_))))
  have hz:db0 nd es u v=T7 nd es u v:=by unfold db0;rw [B_ om]
  exact Cp C J8 C C mm C I Ah (.inl ⟨by rw [hz];omega,by rw [hz],rfl⟩)
 refine Bc (Ao (Ak (Gl2 J8 ?_)))
 refine Gm C (Gm C (G.e (Ac c_ C C (bu1 (A4 hl) u v om)) ?_))
 rintro _ _ ⟨_,_,⟨i3,q4,rfl,hi3,rfl⟩,rfl,rfl⟩
 have hG:=(ac2.1 (by omega:T7 nd es u v=0)).1
 have hile:=hi3.le
 refine Gm C (Gr (Bj C C) (Gr (Bj C C) (Ga C (Ga C (Ar (A1 (S6 10 9 6 3 1 2 C C C C C C) (Ax (Ak (Gm C (Ar (Am C (λc26=>?_) (λc26=>?_))))))))))))
 ·refine Ak (Gr (Cl (cells:=[_,_]) J8 Ex fx7 C C) (Ge0 (Cs J8) ?_))
  refine Ga C (Ar (B3 (Ck ?_)))
  have hz:db0 nd es u v=15:=by unfold db0;rw [An om,B_ ((hi3.mem hG.asc).1 c26)]
  exact Cp C J8 C C mm C I Ah (.inl ⟨by rw [hz];decide,by rw [hz],rfl⟩)
 refine Bc (Ao (Ax (Ba mixed (Bx (e8 b2 [e7 0,.slice none 0 0] 38::e8 b1 [e7 nd,.slice a0 es.length c0] 38::I) 12 (Dr 0 C (Af ag2 C) (Dr 1 C (Bd ef) ?_))))))
 refine Dr 2 C (Af K4 C) (Dr 3 C (Bd an1) ?_)
 refine Dr 5 C (Aq C) (Dr 6 C (Aq C) (Dr 7 C (Aq C) (Ds1 4 (Sc2 C (Ac c_ C C (an7 (xs:=es) (A4 hl) om)) λad5 cp6=>?_))))
 refine Ds1 8 (Sc0 C (Ac c_ C C (cr1 u v)) ?_)
 refine Ds1 9 (Se1 C (B2 (α:=Pt) (cs:=[_,_]) (xs:=[⟨(j4 u v).u,(j4 u v).v⟩]) Ay s8 C C dc dc C C C C) λad7=>?_)
 refine Ds1 10 (Sc2 C (Ac c_ C C (ci1 (i:=i3) (xs:=es) (ys:=([⟨(j4 u v).u,(j4 u v).v⟩]:List Pt)) (show Fit κ _ (vc 105 (.slice ad5 es.length cp6) (es)::vc 105 (.slice ad7 1 1) (([⟨(j4 u v).u,(j4 u v).v⟩]:List Pt))::e8 b2 [e7 0,.slice none 0 0] 38::e8 b1 [e7 nd,.slice a0 es.length c0] 38::I) from Az) C C om (by simp only [E_];omega) lcn)) λad8 cp9=>?_)
 show D prog κ _ _ _ _ _ _ _ ([(38,.slice ad8 (List.take i3 es++([⟨(j4 u v).u,(j4 u v).v⟩]:List Pt)++List.drop i3 es).length cp9),(37,.slice ad7 1 1),(36,.agg #[e7 ((j4 u v).u),e7 ((j4 u v).v)]),(32,.slice ad5 es.length cp6),(35,e7 v),(34,e7 u),(33,e7 ((i3:Int))),(31,.slice a0 es.length c0),(30,.pointer (some ⟨b1,1,none⟩)),(29,e7 nd),(28,.pointer (some ⟨b1,0,none⟩)),(26,.bool (decide (i3<es.length/\e_ es i3=j4 u v))),(10,.bool (decide (i3<es.length/\e_ es i3=j4 u v))),(9,e7 ((i3:Int))),(6,.pointer (some ⟨b2,0,none⟩)),(3,.pointer (some ⟨b1,0,none⟩)),(1,e7 u),(2,e7 v)]:Env) (vc 105 (.slice ad8 (List.take i3 es++([⟨(j4 u v).u,(j4 u v).v⟩]:List Pt)++List.drop i3 es).length cp9) (List.take i3 es++([⟨(j4 u v).u,(j4 u v).v⟩]:List Pt)++List.drop i3 es)::e8 b2 [e7 0,.slice none 0 0] 38::e8 b1 [e7 nd,.slice a0 es.length c0] 38::I)
 refine Dr 11 C (Cl (cells:=[_,_]) J8 Ex fx7 C C) (Cg kr ?_)
 refine Ae 12 C (Cs J8) ?_
 rintro _ _ ⟨rfl,rfl⟩
 refine Dg (i:=13) kr C (Ap C) C C (Bh C) ?_
 refine Ch kr ?_
 refine Ao (A1 (S2 7 6 C C) (B3 ?_))
 have hz:db0 nd es u v=0:=by unfold db0;rw [An om,An (λhm=>c26 ((hi3.mem hG.asc).2 hm))]
 have hE:List.take i3 es++([⟨(j4 u v).u,(j4 u v).v⟩]:List Pt)++List.drop i3 es=(z7 Pt.lt es (j4 u v)):=hi3.ins hG.asc (λhm=>c26 ((hi3.mem hG.asc).2 hm))
 exact Cp C J8 C C mm C (vc 105 (.slice ad8 (z7 Pt.lt es (j4 u v)).length cp9) (z7 Pt.lt es (j4 u v))::I) (by rw [←hE];exact Ai) (.inr ⟨ad8,cp9,hz,by rw [←hE];rfl,rfl⟩)
variable {κ:Ctx}{I:List Item}
theorem cb2(hx:Sl κ I va xs)(hy:Sl κ I vb ys):eu prog κ 64 [va,vb] I (λr J=>r = .bool (decide (xs=ys))/\I=J):=by
 refine Bv hx.le λad=>?_
 refine Bv hy.le λab=>?_
 refine Ce2 Tryz.func64 C C<|Z ?_
 refine Am C (λc10=>Z ?_)<|λc10=>Z ?_
 ·exact Al C C I Ah ⟨by rw [D_ (show ¬xs=ys from λe=>by first|(have e2:=Fz List.length e;omega)|(have e3:=Fz (λl=>e_ l k) e;exact absurd e3 asm))],rfl⟩
 refine Dh (σ:=Nat) (λs=>[(13,e7 ((s:Nat):Int))]) (λ_=>[]) (λs=>(s<=xs.length)/\(∀j,j<s->e_ xs j=e_ ys j)) (λs=>xs.length - s) 0 (show ((0:Nat)<=xs.length)/\(∀j,j<(0:Nat)->e_ xs j=e_ ys j) from ⟨om,E8⟩) ?_
 rintro k hp
 obtain ⟨hk,hn⟩:=hp
 refine Z ?_
 refine Am C (λaa=>Z ?_)<|λaa=>Z ?_
 ·refine Ba mixed (Bx I 9<|Z ?_)
  refine Dr 8 C (j8.fz0 (α:=Pt) (a:=(e_ xs k)) (b:=(e_ ys k)) ay7 C C)<|Z ?_
  refine Am C (λM=>Z ?_)<|λM=>Z ?_
  ·exact Al C C I Ah ⟨by rw [D_ (show ¬xs=ys from λe=>by first|(have e2:=Fz List.length e;omega)|(have e3:=Fz (λl=>e_ l k) e;exact absurd e3 asm))],rfl⟩
  exact Bt ((k+1)) ⟨om,(Di hn<|Ft.1 M)⟩
 exact Al C C I Ah ⟨by rw [As (show xs=ys from fj8 om (λj hj=>hn j om))],rfl⟩
theorem at6{n m:Int}(hx:Sl κ I va xs)(hy:Sl κ I vb ys):eu prog κ 24 [.agg #[e7 n,va],.agg #[e7 m,vb]] I (λr J=>r = .bool (decide (n=m/\xs=ys))/\I=J):=by
 refine Ce2 Tryz.func24 C C ?_
 refine Ak<|Ge1 (Au (cs:=[_,_]) C C C) λb1=>Ge1 (Au (cs:=[_,_]) C C C) λb2=>Z ?_
 refine A3 (d:=10) C (λM=>Z ?_)<|λM=>Z ?_
 ·refine Ds (Cn C C C) (Ac c_ C C<|cb2 (A4 hx)<|A4 hy) ?_
  rintro _ _ ⟨_,_,⟨rfl,rfl⟩,rfl,rfl⟩
  refine Z ?_
  exact Al C C I Ah ⟨Fz Value.bool<|Fs.2 ⟨λh=>⟨by assumption,h⟩,λh=>h.2⟩,rfl⟩
 exact Al C C I Ah ⟨Fz Value.bool (D_ (λh=>by have:=h.1;omega)).symm,rfl⟩
variable {κ:Ctx}{I:List Item}
def H9(v:Int):BitVec 64:=if v<0\/64<=v then 0#64 else 1#64 <<< v.toNat
def be1(l:List Int):BitVec 64:=l.foldl (λm v=>m ||| H9 v) 0#64
def at4(n:Int):BitVec 64:=if n<=0 then 0#64 else if 64<=n then 18446744073709551615#64 else (1#64 <<< n.toNat) - 1#64
def dw4(m:BitVec 64):BitVec 64:=((m >>> (1:Int).toNat) &&& 6148914691236517205#64)+(m &&& 6148914691236517205#64)
def dw3(m:BitVec 64):BitVec 64:=((m >>> (2:Int).toNat) &&& 3689348814741910323#64)+(m &&& 3689348814741910323#64)
def bx6(m:BitVec 64):BitVec 64:=((m >>> (4:Int).toNat)+m) &&& 1085102592571150095#64
def br1(m:BitVec 64):BitVec 64:=m+(m >>> (8:Int).toNat)
def bx5(m:BitVec 64):BitVec 64:=m+(m >>> (16:Int).toNat)
def ct0(m:BitVec 64):BitVec 64:=m+(m >>> (32:Int).toNat)
def ac7(m:BitVec 64):Int:=((ct0 (bx5 (br1 (bx6 (dw3 (dw4 m)))))).toNat:Int) % 128
theorem cs9(m:BitVec 64):(ct0 (bx5 (br1 (bx6 m)))).toNat<9223372036854775808:=by
 have M:(bx6 m).toNat<=1085102592571150095:=by unfold bx6;rw [Kx];exact Nat.and_le_right
 generalize bx6 m=a at M
 have h4:(br1 a).toNat<=a.toNat+a.toNat / 256:=by
  unfold br1;rw [Jw,Hv,Hs,show 2 ^ (8:Int).toNat=256 by decide];exact Nat.mod_le _ _
 generalize br1 a=b at h4
 have h5:(bx5 b).toNat<=b.toNat+b.toNat / 65536:=by
  unfold bx5;rw [Jw,Hv,Hs,show 2 ^ (16:Int).toNat=65536 by decide];exact Nat.mod_le _ _
 generalize bx5 b=c at h5
 have h6:(ct0 c).toNat<=c.toNat+c.toNat / 4294967296:=by
  unfold ct0;rw [Jw,Hv,Hs,show 2 ^ (32:Int).toNat=4294967296 by decide];exact Nat.mod_le _ _
 omega
theorem ac5(v:Int):eu prog κ 156 [e7 v] I (λr J=>r=U64 (H9 v)/\I=J):=by
 refine Ce1 Tryz.func156 C C<|Z ?_
 refine A3 (d:=5) C (λM=>Z ?_)<|λM=>Z ?_
 ·exact Al C C I Ah ⟨by unfold H9;rw [B_ om];rfl,rfl⟩
 refine Am C (λc8=>Z ?_)<|λc8=>Z ?_
 ·exact Al C C I Ah ⟨by unfold H9;rw [B_ om];rfl,rfl⟩
 exact Gr (j8.gc8 (a:=1#64) C C om om)<|Ga C<|Ar<|B3<|Al C C I Ah ⟨by unfold H9;rw [An om],rfl⟩
theorem cy9(n:Int):eu prog κ 157 [e7 n] I (λr J=>r=U64 (at4 n)/\I=J):=by
 refine Ce1 Tryz.func157 C C<|Z ?_
 refine Am C (λc3=>Z ?_)<|λc3=>Z ?_
 ·exact Al C C I Ah ⟨by unfold at4;rw [B_ om];rfl,rfl⟩
 refine Am C (λM=>Z ?_)<|λM=>Z ?_
 ·exact Al C C I Ah ⟨by unfold at4;rw [An om,B_ om];rfl,rfl⟩
 exact Gr (j8.gc8 (a:=1#64) C C om om)<|Gr (j8.gj6 (a:=(1#64) <<< (n).toNat) (b:=1#64) C C)<|Ga C<|Ar<|B3<|Al C C I Ah ⟨by unfold at4;rw [An om,An om],rfl⟩
theorem cb7(m:BitVec 64):eu prog κ 176 [U64 m] I (λr J=>r=e7 (ac7 m)/\I=J):=by
 refine Ce1 Tryz.func176 C C<|Z ?_
 refine Gr (Fh (a:=m) C C om om)<|Gr (Eh (a:=m >>> (1:Int).toNat) (b:=6148914691236517205#64) C C)<|Gm C<|Gr (Eh (a:=m) (b:=6148914691236517205#64) C C)<|Gr (j8.fu6 (a:=(m >>> (1:Int).toNat) &&& (6148914691236517205#64)) (b:=m &&& (6148914691236517205#64)) C C)<|Z ?_
 generalize hm1:((m >>> (1:Int).toNat) &&& (6148914691236517205#64))+(m &&& (6148914691236517205#64))=m1
 refine Z ?_
 refine Gr (Fh (a:=m1) C C om om)<|Gr (Eh (a:=m1 >>> (2:Int).toNat) (b:=3689348814741910323#64) C C)<|Gm C<|Gr (Eh (a:=m1) (b:=3689348814741910323#64) C C)<|Gr (j8.fu6 (a:=(m1 >>> (2:Int).toNat) &&& (3689348814741910323#64)) (b:=m1 &&& (3689348814741910323#64)) C C)<|Z ?_
 generalize hm2:((m1 >>> (2:Int).toNat) &&& (3689348814741910323#64))+(m1 &&& (3689348814741910323#64))=m2
 refine Z ?_
 refine Gr (Fh (a:=m2) C C om om)<|Gm C<|Gr (j8.fu6 (a:=m2 >>> (4:Int).toNat) (b:=m2) C C)<|Gr (Eh (a:=(m2 >>> (4:Int).toNat)+m2) (b:=1085102592571150095#64) C C)<|Z ?_
 generalize hm3:((m2 >>> (4:Int).toNat)+m2) &&& (1085102592571150095#64)=m3
 refine Z ?_
 refine Gr (Fh (a:=m3) C C om om)<|Gr (j8.fu6 (a:=m3) (b:=m3 >>> (8:Int).toNat) C C)<|Z ?_
 generalize hm4:m3+(m3 >>> (8:Int).toNat)=m4
 refine Z ?_
 refine Gr (Fh (a:=m4) C C om om)<|Gr (j8.fu6 (a:=m4) (b:=m4 >>> (16:Int).toNat) C C)<|Z ?_
 generalize hm5:m4+(m4 >>> (16:Int).toNat)=m5
 refine Z ?_
 refine Gr (Fh (a:=m5) C C om om)<|Gr (j8.fu6 (a:=m5) (b:=m5 >>> (32:Int).toNat) C C)<|Z ?_
 generalize hm6:m5+(m5 >>> (32:Int).toNat)=m6
 refine Z ?_
 exact Gr (j8.toI Tryz.underlying207 Cf C<|by subst hm6 hm5 hm4 hm3;exact cs9 _)<|Gr (j8.gb5 C C om)<|Ga C<|Ar<|B3<|Al C C I Ah ⟨by subst hm6 hm5 hm4 hm3 hm2 hm1;rfl,rfl⟩
theorem bi1(m:BitVec 64):eu prog κ 155 [U64 m] I (λr J=>r=e7 (ac7 m)/\I=J):=by
 refine Ce1 Tryz.func155 C C<|Z ?_
 refine Gc0 (Ac c_ C C<|cb7 m) ?_
 exact Ga C<|Ar<|B3<|Al C C I Ah ⟨rfl,rfl⟩
end Go.Sl
namespace Go.Sl
open Go.Proofs
set_option maxRecDepth 4000
variable{v:Int}{i:Nat}
theorem fb8(h0:0<=v)(M:v<64):H9 v=BitVec.twoPow 64 v.toNat:=by
 unfold H9;rw [An om];rfl
theorem cf3(hi:i<64):(H9 v).getLsbD i=decide (v=(i:Int)):=by
 by_cases h:0<=v/\v<64
 ·rw [fb8 h.1 h.2,BitVec.getLsbD_twoPow]
  have e:(v.toNat=i)↔(v=(i:Int)):=by omega
  simp [hi,h,e]
 unfold H9
 rw [B_ om]
 have:¬v=(i:Int):=by omega
 simp [this]
theorem ay6(hi:i<64):∀(l:List Int) (m:BitVec 64),(l.foldl (λm v=>m ||| H9 v) m).getLsbD i=(m.getLsbD i||decide ((i:Int)∈l))
 |[],m=>by simp
 |v::l,m=>by
  rw [Hy,ay6 hi l,Ld,cf3 hi]
  by_cases h1:v=(i:Int)
  ·simp [h1]
  have:¬(i:Int)=v:=λe=>h1 e.symm
  simp [h1,this]
end Go.Sl
namespace Go.Sl
open Go.Proofs
set_option maxRecDepth 4000
variable{nd:Int}{v:Value}{es:List Pt}
variable {κ:Ctx}{I:List Item}
attribute [local irreducible] W G V D A j8 Eff
theorem bh4{rows:List (BitVec 64)}{e:Pt}(h:¬(0<=e.u/\e.u<e.v/\e.v<rows.length)):X6 rows e=rows:=by unfold X6;rw [An h]
theorem at7(hl:Sl κ I v es):eu prog κ 154 [.agg #[e7 nd,v]] I (λr J=>∃a c,r = .slice a (ek nd es).length c/\J=vk 207 a c (ek nd es)::I):=by
 refine Bv hl.le λan=>?_
 refine Ce1 Tryz.func154 C C ?_
 refine Ak<|Ge1 (Au (cs:=[_,_]) C C C) λb1=>Z ?_
 refine Ge2 (Dk (α:=(BitVec 64)) (n:=(min (max nd 0) 64).toNat) Cq M4 C C C om om dc C) λad ab=>Z ?_
 have ao:(replicate (min (max nd 0) 64).toNat (default:(BitVec 64))).length=(min (max nd 0) 64).toNat:=Fy
 refine Z ?_
 refine Dh (σ:=Nat×(List<|BitVec 64)) (λs=>[(14,e7 ((s.1:Nat):Int))]) (λs=>[vc 207 (.slice ad (replicate ((min (max nd 0) 64).toNat) (default:(BitVec 64))).length ab) (s.2)]) (λs=>(s.1<=es.length)/\(s.2=ek nd (es.take s.1))/\(s.2.length=(min (max nd 0) 64).toNat)) (λs=>es.length - s.1) (0,replicate (min (max nd 0) 64).toNat (default:(BitVec 64))) (show ((0:Nat)<=es.length)/\((replicate (min (max nd 0) 64).toNat (default:(BitVec 64)):List (BitVec 64))=ek nd (es.take (0:Nat)))/\((replicate (min (max nd 0) 64).toNat (default:(BitVec 64)):List (BitVec 64)).length=(min (max nd 0) 64).toNat) from ⟨om,rfl,(by simp)⟩) ?_
 rintro ⟨k,rows⟩ hp
 dsimp only at hp ⊢
 obtain ⟨hk,hr,aa⟩:=hp
 refine Z ?_
 refine Am C (λai=>Z ?_)<|λai=>Z ?_
 ·refine Ge1 (Aj s8 C) λb4=>Ge0 (Cs s8) (Z ?_)
  refine A3 (d:=21) C (λak=>Z ?_)<|λak=>Z ?_
  ·refine A3 (d:=28) C (λaj=>Z ?_) (λaj=>Z ?_)
   ·refine Am C (λah=>?_) (λah=>Z ?_)
    ·refine Ax (Ba mixed<|Bx (e8 b4 [e7 ((e_ es k).u),e7<|(e_ es k).v] 105::vc 207 (.slice ad (replicate ((min (max nd 0) 64).toNat) (default:(BitVec 64))).length ab) (rows)::e8 b1 [e7 nd,v] 38::I) 10<|Z ?_)
     refine Dr 7 C (j8.gc8 (a:=1#64) C C om om)<|Dr 8 C (Ec (a:=(e_ rows<|(e_ es k).u)) (b:=(1#64) <<< ((e_ es k).v).toNat) C C)<|Z ?_
     refine Cg kr ?_
     refine Ae 10 C (Cw (α:=(BitVec 64)) (xs:=rows) (e:=207) (new:=(e_ rows<|(e_ es k).u) ||| ((1#64) <<< ((e_ es k).v).toNat)) M4 C C C om oo am) ?_
     rintro _ _ ⟨rfl,rfl⟩
     refine Ch kr<|Z ?_
     refine Ba mixed<|Bx (e8 b4 [e7 ((e_ es k).u),e7<|(e_ es k).v] 105::vc 207 (.slice ad (replicate ((min (max nd 0) 64).toNat) (default:(BitVec 64))).length ab) (List.set rows ((e_ es k).u).toNat ((e_ rows<|(e_ es k).u) ||| ((1#64) <<< ((e_ es k).v).toNat)))::e8 b1 [e7 nd,v] 38::I) 10<|Z ?_
     refine Dr 7 C (j8.gc8 (a:=1#64) C C om om)<|Dr 8 C (Ec (a:=(e_ (List.set rows ((e_ es k).u).toNat ((e_ rows<|(e_ es k).u) ||| ((1#64) <<< ((e_ es k).v).toNat)))<|(e_ es k).v)) (b:=(1#64) <<< ((e_ es k).u).toNat) C C)<|Z ?_
     refine Cg kr ?_
     refine Ae 10 C (Cw (α:=(BitVec 64)) (xs:=List.set rows ((e_ es k).u).toNat ((e_ rows<|(e_ es k).u) ||| ((1#64) <<< ((e_ es k).v).toNat))) (e:=207) (new:=(e_ (List.set rows ((e_ es k).u).toNat ((e_ rows<|(e_ es k).u) ||| ((1#64) <<< ((e_ es k).v).toNat)))<|(e_ es k).v) ||| ((1#64) <<< ((e_ es k).u).toNat)) M4 C C C om oo am) ?_
     rintro _ _ ⟨rfl,rfl⟩
     refine Ch kr<|Z ?_
     have M:List.set (List.set rows ((e_ es k).u).toNat ((e_ rows<|(e_ es k).u) ||| ((1#64) <<< ((e_ es k).v).toNat))) ((e_ es k).v).toNat ((e_ (List.set rows ((e_ es k).u).toNat ((e_ rows<|(e_ es k).u) ||| ((1#64) <<< ((e_ es k).v).toNat)))<|(e_ es k).v) ||| ((1#64) <<< ((e_ es k).u).toNat))=X6 rows (e_ es k):=by unfold X6;rw [B_ om]
     rw [M]
     exact Bt ((k+1),(X6 rows<|e_ es k))<|by dsimp only;exact ⟨om,(by rw [ad8 om,←hr];first|done|exact M),(by first|exact aa|(rw [Z4];exact aa))⟩
    have M:rows=X6 rows (e_ es k):=(bh4 om).symm
    exact Bt ((k+1),(rows))<|by dsimp only;exact ⟨om,(by rw [ad8 om,←hr];first|done|exact M),(by first|exact aa|(rw [Z4];exact aa))⟩
   have M:rows=X6 rows (e_ es k):=(bh4 om).symm
   exact Bt ((k+1),(rows))<|by dsimp only;exact ⟨om,(by rw [ad8 om,←hr];first|done|exact M),(by first|exact aa|(rw [Z4];exact aa))⟩
  have M:rows=X6 rows (e_ es k):=(bh4 om).symm
  exact Bt ((k+1),(rows))<|by dsimp only;exact ⟨om,(by rw [ad8 om,←hr];first|done|exact M),(by first|exact aa|(rw [Z4];exact aa))⟩
 rw [Fv om] at hr
 subst hr
 have ae:(ek nd es).length=(replicate (min (max nd 0) 64).toNat (default:(BitVec 64))).length:=by omega
 exact Al C C (vk 207 ad ab (ek nd es)::I) (by unfold vk;rw [ae];exact Ai) ⟨_,_,by rw [ae],rfl⟩
theorem da1{F:Item->List Item}{a:Option Addr}{n c i j:Nat}{xs:List Pt}(M:AtF I (vc 105 (.slice a n c) xs) F)(hn:n=xs.length)(ab:i<j)(hj:j<=xs.length)(aa:xs.length<=1000000000):eu prog κ 274 [.slice a n c,e7 (i:Int),e7 (j:Int)] I λr J=>∃ys:List Pt,(r = .slice a (List.take i xs++List.drop j xs).length c/\ys=(List.take i xs++List.drop j xs))/\J=[]++F (vk 105 a c ys):=
 Fl (Z:=λ_=>[]) (X:=λys:List Pt=>vk 105 a c ys) (Post:=λr ys=>r = .slice a (List.take i xs++List.drop j xs).length c/\ys=(List.take i xs++List.drop j xs)) M λJ _ _=>by subst hn;exact (da0 ab hj aa).mono λr J' h=>⟨_,⟨h.1,rfl⟩,h.2.symm⟩
theorem fs0{nd:Int}{a0:Option Addr}{c0:Nat}{es:List Pt}(hl:Sl κ I (.slice a0 es.length c0) es)(u v:Int)(hb:es.length<=10000000):eu prog κ 263 [.agg #[e7 nd,.slice a0 es.length c0],e7 u,e7 v] I (λr J=>(da8 nd es u v≠0/\r = .tuple #[.agg #[e7 0,.slice none 0 0],e7 (da8 nd es u v)]/\I=J)\/(∃a c,da8 nd es u v=0/\r = .tuple #[.agg #[e7 nd,.slice a (j7 es (j4 u v)).length c],e7 0]/\J=vc 105 (.slice a (j7 es (j4 u v)).length c) (j7 es (j4 u v))::I)):=by
 refine Ce3 Tryz.func263 C C ?_
 refine Ak (Ge1 (Au (cs:=[_,_]) C C C) λb1=>Ge1 (Aj J8 C) λb2=>Z ?_)
 refine Gc0 (Ac c_ C C (cc8 (A4 hl) u v)) (Z ?_)
 refine Am C (λc16=>Z ?_) (λc16=>Z ?_)
 ·refine Ge0 (Cs J8) (Z ?_)
  have hz:da8 nd es u v=T7 nd es u v:=by unfold da8;rw [B_ om]
  exact Cp C J8 C C mm C I Ah (.inl ⟨by rw [hz];omega,by rw [hz],rfl⟩)
 refine G.e (Ac c_ C C (bu1 (A4 hl) u v om)) ?_
 rintro _ _ ⟨_,_,⟨i3,q4,rfl,hi3,rfl⟩,rfl,rfl⟩
 have hG:=(ac2.1 (by omega:T7 nd es u v=0)).1
 have hile:=hi3.le
 refine Gm C (Gr (Bj C C) (Gr (Bj C C) (Ga C (Ga C (Ar (A1 (S4 10 9 6 3 C C C C) (Ax (Ak (Gm C (Gr (Fi C) (Ar (Am C (λc27=>?_) (λc27=>?_)))))))))))))
 ·refine Ak (Gr (Cl (cells:=[_,_]) J8 Ex fx7 C C) (Ge0 (Cs J8) ?_))
  refine Ga C (Ar (B3 (Ck ?_)))
  have hz:da8 nd es u v=7:=by unfold da8;rw [An om,An (λhm=>c27 ((hi3.mem hG.asc).2 hm))]
  exact Cp C J8 C C mm C I Ah (.inl ⟨by rw [hz];decide,by rw [hz],rfl⟩)
 refine Bc (Ao (Ax (Ba mixed (Bx (e8 b2 [e7 0,.slice none 0 0] 38::e8 b1 [e7 nd,.slice a0 es.length c0] 38::I) 10 (Dr 0 C (Af ag2 C) (Dr 1 C (Bd ef) ?_))))))
 refine Dr 2 C (Af K4 C) (Dr 3 C (Bd an1) ?_)
 refine Dr 5 C (Aq C) (Dr 6 C (Aq C) (Dr 7 C (Rad C C) (Ds1 4 (Sc2 C (Ac c_ C C (an7 (xs:=es) (A4 hl) om)) λad5 cp6=>?_))))
 refine Ds1 8 (Se C (Ac c_ C C (da1 (i:=i3) (j:=(i3+1)) (by repeat (first|exact AtF.head _ _|apply AtF.tail)) C om om om)) ?_)
 rintro _ _ ⟨_,_,⟨_,⟨rfl,rfl⟩,rfl⟩,rfl,rfl⟩
 refine ⟨Ai,?_⟩
 show D prog κ _ _ _ _ _ _ _ ([(37,.slice ad5 (List.take i3 es++List.drop (i3+1) es).length cp6),(33,.slice ad5 es.length cp6),(36,e7 ((i3:Int)+1)),(35,e7 ((i3:Int))),(34,e7 ((i3:Int))),(32,.slice a0 es.length c0),(31,.pointer (some ⟨b1,1,none⟩)),(30,e7 nd),(29,.pointer (some ⟨b1,0,none⟩)),(27,.bool (decide (¬(i3<es.length/\e_ es i3=j4 u v)))),(26,.bool (decide (i3<es.length/\e_ es i3=j4 u v))),(10,.bool (decide (i3<es.length/\e_ es i3=j4 u v))),(9,e7 ((i3:Int))),(6,.pointer (some ⟨b2,0,none⟩)),(3,.pointer (some ⟨b1,0,none⟩))]:Env) (vc 105 (.slice ad5 (List.take i3 es++List.drop (i3+1) es).length cp6) (List.take i3 es++List.drop (i3+1) es)::e8 b2 [e7 0,.slice none 0 0] 38::e8 b1 [e7 nd,.slice a0 es.length c0] 38::I)
 refine Z ?_
 refine Cg kr ?_
 refine Ae 10 C (Cs J8) ?_
 rintro _ _ ⟨rfl,rfl⟩
 refine Dg (i:=11) kr C (Ap C) C C (Bh C) ?_
 refine Ch kr (Z ?_)
 have hz:da8 nd es u v=0:=by unfold da8;rw [An om,B_ ((hi3.mem hG.asc).1 (Ft.1 c27))]
 have hE:List.take i3 es++List.drop (i3+1) es=(j7 es (j4 u v)):=hi3.del hG.asc ((hi3.mem hG.asc).1 (Ft.1 c27))
 exact Cp C J8 C C mm C (vc 105 (.slice ad5 (j7 es (j4 u v)).length cp6) (j7 es (j4 u v))::I) (by rw [←hE];exact Ai) (.inr ⟨ad5,cp6,hz,by rw [←hE];rfl,rfl⟩)
variable {κ:Ctx}{I:List Item}
theorem V2(hl:Sl κ I v es):eu prog κ 51 [.agg #[e7 nd,v]] I (λr J=>r=e7 (F6 nd es)/\I=J):=by
 refine Bv hl.le λai=>?_
 refine Ce1 Tryz.func51 C C ?_
 refine Ak<|Ge1 (Au (cs:=[_,_]) C C C) λb1=>Z ?_
 refine A3 (d:=8) C (λg8=>Z ?_)<|λg8=>Z ?_
 ·exact Al C C I Ah ⟨by rw [show F6 nd es=1 from (by unfold F6;rw [B_ om])],rfl⟩
 refine Am C (λc12=>Z ?_)<|λc12=>Z ?_
 ·exact Al C C I Ah ⟨by rw [show F6 nd es=1 from (by unfold F6;rw [B_ om])],rfl⟩
 refine Dh (σ:=Nat) (λs=>[(16,e7 ((s:Nat):Int))]) (λ_=>[]) (λs=>(s<=es.length)/\(F6 nd es=P5 (bt5 nd) Pt.lt (R8 es s) (es.drop s))) (λs=>es.length - s) 0 (show ((0:Nat)<=es.length)/\(F6 nd es=P5 (bt5 nd) Pt.lt (R8 es (0:Nat)) (es.drop (0:Nat))) from ⟨om,(by unfold F6;rw [An om];rfl)⟩) ?_
 rintro k hp
 obtain ⟨hk,hs⟩:=hp
 refine Z ?_
 refine Am C (λaa=>Z ?_)<|λaa=>Z ?_
 ·refine Ge1 (Aj s8 C) λb2=>Ga C (Ge0 (Cs s8)<|Z ?_)
  refine A3 (d:=24) C (λad=>Z ?_)<|λad=>Z ?_
  ·exact Al C C I Ah ⟨by rw [show F6 nd es=6 from (hs.trans<|(C5 om<|by unfold bt5;rw [B_ om];decide).trans tb1)],rfl⟩
  refine A3 (d:=31) C (λah=>Z ?_)<|λah=>Z ?_
  ·exact Al C C I Ah ⟨by rw [show F6 nd es=6 from (hs.trans<|(C5 om<|by unfold bt5;rw [B_ om];decide).trans tb1)],rfl⟩
  refine Am C (λae=>Z ?_)<|λae=>?_
  ·exact Al C C I Ah ⟨by rw [show F6 nd es=6 from (hs.trans<|(C5 om<|by unfold bt5;rw [B_ om];decide).trans tb1)],rfl⟩
  refine Bc<|Ao<|Ax<|Ba mixed<|Bx (e8 b2 [e7 ((e_ es k).u),e7<|(e_ es k).v] 105::e8 b1 [e7 nd,v] 38::I) 13<|Z ?_
  refine Dj (d:=40) C (λab=>Z ?_)<|λab=>?_
  ·refine Ds1 10 (Sc0 C (Ac c_ C C<|ag8 (e_ es<|(k:Int) - 1)<|e_ es k)<|Z ?_)
   refine Am C (λM=>Z ?_)<|λM=>Z ?_
   ·exact Al C C I Ah ⟨by rw [show F6 nd es=5 from (hs.trans<|af4 om (W3.2 om) om<|by first|assumption|simpa using M)],rfl⟩
   exact Bt ((k+1)) ⟨om,(hs.trans<|E0 om (W3.2 om)<|λh0=>by first|omega|exact Ft.1 asm|assumption)⟩
  refine Dpo 3 C<|Z ?_
  exact Bt ((k+1)) ⟨om,(hs.trans<|E0 om (W3.2 om)<|λh0=>by first|omega|exact Ft.1 asm|assumption)⟩
 exact Al C C I Ah ⟨by rw [show F6 nd es=0 from (hs.trans<|aq8 om)],rfl⟩
theorem dr7(u v:Int):eu prog κ 143 [e7 u,e7 v] I (λr J=>r = .agg #[e7 (j4 u v).u,e7 (j4 u v).v]/\I=J):=by
 refine Ce2 Tryz.func143 C C ?_
 refine Ak<|Ge1 (Aj s8 C) λb1=>Z ?_
 refine Ge0 (Cs s8) ?_
 exact Ar<|B3<|Ek C s8 C mm C I Ah ⟨rfl,rfl⟩
end Go.Sl
namespace Go.Sl
open Go.Proofs
set_option maxRecDepth 4000
variable{ad:Option Addr}{c n:Nat}
section
variable {P:Program}{κ:Ctx}{N:Frm}{L:Env}{I J:List Item}{d:Option Tmp}{ty:TypeId}{ps:String}{af:Array Edge}{gd:Option (Nat×Bool)}
theorem vc.isSome{α:Type}[Enc α]{xs:List α}{e:TypeId}(h:vc e (.slice ad n c) xs∈I):∀w,Sep κ w I->(0<xs.length->ad≠none):=λw hs hlt=>by
 obtain ⟨b,o,cap,h0,_⟩:=((Cz (κ:=κ) h) w hs).some hlt
 cases h0
 exact λM=>by cases M
theorem j8.idxs(α:Type)[Enc α]{x y:Operand}{T E by':Nat}{ag:Bool}{z:List Value}{i:Int}(ht:P.underlying T=some (.slice E))(hE:tyF P E=some (Enc.sz α,ag,by',z))(hx:er L x=some (.slice ad n c))
  (hy:er L y=some (e7 i)) (M:ad≠none) (h0:0<=i) (hn:i<n):j8 P κ N ⟨d,.indexAddr T x y,ty,ps,af,gd⟩ L J (F0 (.slice ad n c)<|i.toNat*Enc.sz α):=by
 cases ad with
 |none=>exact absurd rfl M
 |some ad=>exact λa w M hs=>by simp [execOp,M.eval hx,M.eval hy,Instr.indexAt,asIntOf,run_underlying ht,h0,hn,run_sizeOf hE,F0]
end
end Go.Sl
namespace Go.Sl
open Go.Proofs
set_option maxRecDepth 4000
variable{xs:List Lk}{nd:Int}{va:Value}
variable {κ:Ctx}{I:List Item}
attribute [local irreducible] W G V D A j8 Eff
theorem ag3{k:Nat}(h:k<xs.length):j5 (xs.take (k+1))=j5 (xs.take k)++[(⟨(e_ xs k).u,(e_ xs k).v⟩:Pt)]:=by
 unfold j5;rw [Ca xs k h,Hr];rfl
theorem dq8(hl:Sl κ I va xs)(ae:xs.length<=100000):eu prog κ 108 [.agg #[e7 nd,va]] I (λr J=>∃a c,r = .agg #[e7 nd,.slice a (j5 xs).length c]/\J=vk 105 a c (j5 xs)::I):=by
 refine Bv hl.le λab=>?_
 refine Ce1 Tryz.func108 C C ?_
 refine Ak<|Ge1 (Au (cs:=[_,_]) C C C) λb1=>Ge1 (Aj J8 C) λb2=>Z ?_
 refine Ge1 (Aj J8 C) λb3=>Ge0 (Cs J8)<|Z ?_
 refine Dh (σ:=Nat×(Option Addr)×Nat×(List Pt)) (λs=>[(12,e7 ((s.1:Nat):Int))]) (λs=>[vk 105 s.2.1 s.2.2.1 s.2.2.2,e8 b3 [e7 nd,.slice s.2.1 s.2.2.2.length s.2.2.1] 38]) (λs=>(s.1<=xs.length)/\(s.2.2.2=j5 (xs.take s.1))) (λs=>xs.length - s.1) (0,none,0,[]) (show ((0:Nat)<=xs.length)/\(([]:List Pt)=j5 (xs.take (0:Nat))) from ⟨om,rfl⟩) (hI:=(B7 _ _)) ?_
 rintro ⟨k,a,c,out⟩ hp
 dsimp only at hp ⊢
 obtain ⟨hk,ho⟩:=hp
 have ad:out.length=k:=by rw [ho,G5,Fp];omega
 refine Z ?_
 refine Am C (λc13=>Z ?_)<|λc13=>Z ?_
 ·refine Ge1 (Aj J2 C) λb4=>Ge0 (Fb J2) (Z ?_)
  refine Ge1 (B2 (α:=Pt) (cs:=[_,_]) (xs:=[⟨(e_ xs k).u,(e_ xs k).v⟩]) Ay s8 C C dc dc C C C C) λah=>?_
  refine Ge2 (Br (α:=Pt) (e:=105) (xs:=out) (ys:=([⟨(e_ xs k).u,(e_ xs k).v⟩]:List Pt)) Ay s8 C C C mm A5 lcn dc C<|λ_ _=>am) λM aa=>?_
  refine Gf K4 C<|Ge0 (Fc an1)<|Z ?_
  exact Bt ((k+1),(M),(aa),(out++([⟨(e_ xs k).u,(e_ xs k).v⟩]:List Pt)))<|by dsimp only;exact ⟨om,(by rw [ag3 om,←ho])⟩
 refine Ge0 (Cs J8)<|Z ?_
 have hE:out=j5 xs:=by rw [ho,Fv om]
 exact Ek C J8 C mm C (vk 105 a c (j5 xs)::I) (by unfold vk;rw [←hE];exact Az) ⟨a,c,by rw [←hE]<;>rfl,rfl⟩
theorem cc5(hl:Sl κ I va xs)(hv:q7 nd xs=0)(ab:xs.length<=100000):eu prog κ 57 [.agg #[e7 nd,va]] I (λr J=>∃a c,r = .tuple #[.agg #[e7 nd,.slice a (j5 xs).length c],e7 0]/\J=vk 105 a c (j5 xs)::I):=by
 refine Ce1 Tryz.func57 C C ?_
 refine Ak<|Ge1 (Au (cs:=[_,_]) C C C) λb1=>Ge1 (Aj J8 C) λb2=>Z ?_
 refine G.e (Ac c_ C C<|bi6 (nd:=nd)<|A4 hl) ?_
 rintro _ _ ⟨_,_,⟨rfl,rfl⟩,rfl,rfl⟩
 refine Z ?_
 refine Am C (λc8=>?_)<|λc8=>Z ?_
 ·exact absurd hv c8
 refine G.e (Ac c_ C C<|dq8 (nd:=nd) (A4 hl) om) ?_
 rintro _ _ ⟨_,_,⟨M,aa,rfl,rfl⟩,rfl,rfl⟩
 refine Ge0 (Cs J8) ?_
 exact Ga C<|Ar<|B3<|Cp C J8 C C mm C (vk 105 M aa (j5 xs)::I) Az ⟨M,aa,rfl,rfl⟩
end Go.Sl
namespace Go.Sl
open Go.Proofs
set_option maxRecDepth 4000
end Go.Sl
namespace Go.Sl
end Go.Sl
namespace Go.Sl
end Go.Sl
namespace Go.Sl
end Go.Sl
namespace Go.Sl
def af2(N:Nat)(R:Int->Bool):List Int:=((List.range N).map λk=>((k:Nat):Int)).filter R
theorem cs3(N:Nat)(R:Int->Bool):af2 (N+1) R=af2 N R++if R (N:Int) then [(N:Int)] else []:=by
 unfold af2
 rw [List.range_succ,Hr,Gj]
 congr 1
 by_cases h:R (N:Int)<;>simp [h]
theorem bw6(N:Nat)(R:Int->Bool):(af2 N R).length<=N:=by
 have:=Gs R ((List.range N).map λk=>((k:Nat):Int))
 simpa [af2] using this
theorem ai7{N:Nat}{R:Int->Bool}{z:Int}:z∈af2 N R↔(0<=z/\z<N)/\R z=true:=by
 unfold af2
 rw [Gg,Gv]
 constructor
 ·rintro ⟨⟨k,M,rfl⟩,h⟩
  exact ⟨⟨by omega,by have:=Hz.1 M;omega⟩,h⟩
 rintro ⟨⟨h0,h1⟩,h⟩
 exact ⟨⟨z.toNat,Hz.2 om,by omega⟩,h⟩
end Go.Sl
namespace Go.Sl
end Go.Sl
namespace Go.Sl
section
variable {f side:List Int}{val:Int}
theorem bc9(N:Nat)(R:Int->Bool):ak1 (af2 N R) (N:Int):=by
 induction N with
 |zero=>exact cw3 _
 |succ N ih=>
  rw [cs3]
  split
  ·have:=ch1 ih om
   exact this
  rw [Gq];exact ch2 ih om
end
end Go.Sl
namespace Go.Sl
end Go.Sl
namespace Go.Sl
open Go.Proofs
set_option maxRecDepth 4000
theorem as2:cc4 (λa b:Int=>a<b):=⟨λa h=>by omega,λa b c M h2=>by omega,λa b=>by omega⟩
theorem de5(x:Int):∀l,an4 l x=z7 (λa b:Int=>a<b) l x
 |[]=>rfl
 |y::ys=>by simp only [an4,z7,de5 x ys]
theorem fy5(l:List Int):ofL l=dd4 (λa b:Int=>a<b) l:=by
 unfold ofL dd4
 congr 1
 funext acc x
 exact de5 x acc
theorem R9(l:List Int):(ofL l).Pairwise (λa b:Int=>a<b):=by rw [fy5];exact as2.dd4 l
theorem ae8{l:List Int}{N:Int}:ak1 l N↔(∀x∈l,0<=x/\x<N)/\l.Pairwise (λa b:Int=>a<b):=by
 constructor
 ·intro h
  refine ⟨λx hx=>cw4 h hx,bq8 as2.tr λi hi=>?_⟩
  have:=(h (i+1) hi).2 om
  rwa [show ((i+1:Nat):Int) - 1=(i:Int) from by omega] at this
 rintro ⟨h1,h2⟩ j M
 refine ⟨h1 _<|Bp om om,λh0=>?_⟩
 have:=(Fd l).1 h2 (j - 1) j om M
 rwa [show ((j - 1:Nat):Int)=(j:Int) - 1 from by omega] at this
end Go.Sl
namespace Go.Sl
end Go.Sl
namespace Go.Sl
end Go.Sl
namespace Go.Sl
def dt0(nd:Int)(W:BitVec 64):Prop:=∀x∈eo W,x<nd
end Go.Sl
namespace Go.Sl
end Go.Sl
namespace Go.Sl
end Go.Sl
namespace Go.Sl
end Go.Sl
namespace Go.Sl
open Go.Proofs
set_option maxRecDepth 4000
end Go.Sl
