/- A part of the proofs of statements of this seat: contracts of functions, and the plain laws that they lean on. No conditions. -/
import Derived.Test.YtoagcglbkeomgaaGreatDoorE9
set_option linter.unusedVariables false
set_option linter.unusedSimpArgs false
set_option linter.unusedSectionVars false
open Go.Proofs.Tryz (prog)
open List (replicate)
set_option maxHeartbeats 8000000
namespace Go.Sl
open Go.Proofs
set_option maxRecDepth 4000
variable {κ:Ctx}{I:List Item}
attribute [local irreducible] W G V D A j7 Eff
theorem an3{a:Option Addr}{c:Nat}{xs:List Pt}(hl:Sl κ I (.slice a xs.length c) xs)(hb:xs.length<=1000000000):eu prog κ 84 [.slice a xs.length c] I (λr J=>∃a' c',r = .slice a' xs.length c'/\J=vk 105 a' c' xs::I):=by
 refine Bw (p:=a.isNone=true->xs=[]/\c=0) (λw hs hn=>hl.isNone w hs hn) λM=>?_
 refine Ce1 Tryz.func84 C C<|Z ?_
 refine Gr (j7.dz0 Ax C C)<|Ar<|Dq C (λc4=>Z ?_)<|λc4=>Z ?_
 ·obtain ⟨ad,_⟩:=M c4
  subst ad
  exact Ak C C (vk 105 none 0 ([]:List Pt)::I) (B6 _ _) ⟨none,0,rfl,rfl⟩
 refine Ge1 (Eff.bs0 (α:=Pt) Ax s9 C) λae=>?_
 refine Gm C<|Ge2 (Bp (α:=Pt) (e:=105) (xs:=([]:List Pt)) (ys:=xs) Ax s9 C C C mm (A4 hl) tb3 dc C<|λ_ _=>am) λab aa=>?_
 exact Ga C<|Ar<|B2<|Ak C C (vk 105 ab aa xs::I) Ai ⟨ab,aa,rfl,rfl⟩
theorem ge3:∀M w,(callFunc 276 M).run prog w=((Extern.SlicesOverlaps.overlaps #[36,36] #[4] M).run prog w).andThen λv w'=> .ok (.value v) w':=λM w=>run_callFunc_extern (e:=Extern.SlicesOverlaps.overlaps #[36,36] #[4]) Tryz.func276 kr kr kr kr M w
theorem cz3{a va:Option Addr}{c M i:Nat}{xs ys:List Pt}(hi:i<=xs.length)(hy:0<ys.length)(ar:xs.length+ys.length<=1000000000):eu prog κ 269 [.slice a xs.length c,e7 ((i:Int)),.slice va ys.length M] (vc 105 (.slice a xs.length c) (xs)::vc 105 (.slice va ys.length M) (ys)::I) (λr J=>∃a' c',r = .slice a' (List.take i xs++ys++List.drop i xs).length c'/\J=vc 105 (.slice a' (List.take i xs++ys++List.drop i xs).length c') (List.take i xs++ys++List.drop i xs)::I):=by
 refine Bw (vc.cap A_) λap=>?_
 have ah:(List.take i xs++ys++List.drop i xs).length=xs.length+ys.length:=by simp only [By,Fr,Fz];omega
 refine Ce3 Tryz.func269 C C ?_
 refine Am<|Ga C<|Ar<|Am<|Gm C<|Gm C<|Gr (Dn (α:=Pt) (xs:=xs) (l:=i) Ax s9 C C om A5 lat)<|Ar<|Am<|Gm C<|Gr (Bl Ax C)<|Ga C<|Ar<|Ay<|Am<|Gm C<|Gr (C4 C C)<|Ar<|Al C (λai=>?_)<|λai=>?_
 ·exact absurd ai om
 refine Bc<|Ao<|Am<|Gm C<|Gr (Bl Ax C)<|Ga C<|Ar<|A0 (S5 8 7 0 1 2)<|Ay<|Am<|Gm C<|Gm C<|Gr (C4 C C)<|Ar<|Al C (λan=>?_)<|λan=>?_
 ·refine Am (Gm C<|Gm C<|Ge2 (Bp (α:=Pt) (e:=105) (xs:=xs) (ys:=ys) Ax s9 C C C mm A5 om dc C<|λ_ _=>am) λad ae=>?_)
  refine Ga C<|Ar<|B2<|Cw ?_
  have hR:List.take i xs++ys++List.drop i xs=xs++ys:=by rw [Fx om,Hb om,Gt]
  exact Ak C C (vc 105 (.slice ad (List.take i xs++ys++List.drop i xs).length ae) (List.take i xs++ys++List.drop i xs)::I) (by rw [hR];exact Az) ⟨ad,ae,by rw [hR],rfl⟩
 refine Bc<|Ao<|Ay<|Am<|Gm C<|Gm C<|Gr (Rad C C)<|Gm C<|Gr (j7.caps Ax C)<|Gr (Ec C C)<|Ar<|A0 (S6 31 8 7 0 1 2)<|Al C (λaj=>?_)<|λaj=>?_
 ·refine Am (Gm C<|Gm C<|Gr (E3 (h:=i) Ax s9 C C om om)<|Gm C<|Gm C<|Gr (Rad C C)<|Gm C<|Gr (Rsu C C)<|Ge2 (Eff.grow (α:=Pt) (xs:=xs) (k:=xs.length+ys.length - i) Ax Cb s9 C C C om A5 om om om om dc C) λab aa=>?_)
  refine Ga C<|G.pull (p:=(List.take i xs++replicate (xs.length+ys.length - i) (default:Pt)).length<=aa) (vc.cap mm) λao=>?_
  have aq:(List.take i xs++replicate (xs.length+ys.length - i) (default:Pt)).length=xs.length+ys.length:=by simp only [By,Fr,F_];omega
  refine Ar<|A0 (S5 9 7 0 1 2)<|Am<|Gm C<|Gm C<|Gr (Dn (α:=Pt) (xs:=List.take i xs++replicate (xs.length+ys.length - i) (default:Pt)) (l:=i) Ax s9 C C om A5 lat)<|Gm C<|Ge0 (Fm (α:=Pt) (k:=i) (q:=ys.length) (R:=List.take i xs++ys++replicate (xs.length - i) (default:Pt)) (n:=(i+(xs.length+ys.length - i))) Ax s9 C lat C A5 lat lat C (gf4 hi) lat am) ?_
  refine Ar<|Ay<|A9 mixed<|Bx I 9<|Dr 0 C (Aq C)<|Dr 1 C (Aq C)<|Dr 2 C (Aq C)<|Dr 3 C (Rad C C)<|Dr 4 C (C2 (l:=(i+ys.length)) Ax s9 C C om om om)<|Dr 5 C (Aq C)<|Dr 6 C (Aq C)<|Dr 7 C (C2 (l:=i) Ax s9 C C om om om)<|Ds1 8<|Se0 C (Fm (α:=Pt) (k:=(i+ys.length)) (q:=(xs.length - i)) (R:=List.take i xs++ys++List.drop i xs) (n:=(i+(xs.length+ys.length - i))) Ax s9 C lat C (Sl.dz2 (Cy (xs:=xs) mm) om om) lat lat C (gf3 hi) lat am) ?_
  exact Dz<|Ao<|A0 (S1 9)<|Am<|Gm C<|Ga C<|Ar<|B2<|Cw<|Ak C C (vc 105 (.slice ab (List.take i xs++ys++List.drop i xs).length aa) (List.take i xs++ys++List.drop i xs)::I) (by rw [show (List.take i xs++ys++List.drop i xs).length=i+(xs.length+ys.length - i) by omega];exact Az) ⟨ab,aa,by rw [show (List.take i xs++ys++List.drop i xs).length=i+(xs.length+ys.length - i) by omega],rfl⟩
 refine Bc<|Ao<|Am<|Gm C<|Gm C<|Gm C<|Gr (Rad C C)<|Gr (E3 (h:=xs.length+ys.length) Ax s9 C C om om)<|Ga C<|G.room (h:=xs.length+ys.length) ta1 C om om<|λjs ak=>?_
 show G prog κ _ _ _ _ ([(0,.slice a (xs.length+ys.length) c),(60,.slice a (xs.length+ys.length) c),(59,e7<|((xs.length:Nat):Int)+((ys.length:Nat):Int)),(58,e7 ((ys.length:Nat):Int)),(57,e7 ((xs.length:Nat):Int)),(56,.slice a xs.length c),(31,.bool<|decide<|(c:Int)<(((xs.length:Nat):Int)+((ys.length:Nat):Int))),(8,e7 ((xs.length:Nat):Int)),(7,e7 ((ys.length:Nat):Int)),(0,.slice a xs.length c),(1,e7<|(i:Int)),(2,.slice va ys.length M)]:Env) (vec 105 (Enc.sz Pt) (.slice a (xs.length+ys.length) c) (xs.length+ys.length) (cells xs++js)::vc 105 (.slice va ys.length M) (ys)::I)
 refine Ar<|Ay<|Am<|Gm C<|Gm C<|Gm C<|Gm C<|Gr (Rad C C)<|Gr (C2 (l:=(i+ys.length)) Ax s9 C C om om om)<|Ge0 (Eff.overlaps (k:=i+ys.length) ge3 Ax s9 C C om om om (show Fit κ _ (vc 105 (.slice va ys.length M) ys::vec 105 (Enc.sz Pt) (.slice a (xs.length+ys.length) c) (xs.length+ys.length) (cells xs++js)::I) from Fit.sp (Sp.pick (ab5.tail _<|ab5.head _ _)<|Sp.refl _)) (Nat.mul_pos om Enc.pos) C) ?_
 refine Gr (Fa C)<|Ar<|A0 (S6 68 0 8 7 1 2)<|W.yes C<|Ay<|A9 mixed<|Bx I 9<|Dr 0 C (Aq C)<|Dr 1 C (Aq C)<|Dr 2 C (Aq C)<|Dr 3 C (Rad C C)<|Dr 4 C (C2 (l:=(i+ys.length)) Ax s9 C C om om om)<|Dr 5 C (Aq C)<|Dr 6 C (Aq C)<|Dr 7 C (C2 (l:=i) Ax s9 C C om om om)<|Ds1 8<|Se0 C (Eff.cg3 (sz:=Enc.sz Pt) (n:=xs.length+ys.length) (cs:=(cells xs++js)) (k:=(i+ys.length)) (q:=(xs.length - i)) Ax s9 C om C (au2.dz3 (au2.vec mm) om) om om (ce6 hi) C am) ?_
 show D prog κ _ _ _ _ _ _ _ ([(77,e7<|(((xs.length - i):Nat):Int)),(76,.slice (N9 a c i<|Enc.sz Pt) ((xs.length+ys.length) - i)<|c - i),(75,e7<|(i:Int)),(74,.slice a (xs.length+ys.length) c),(73,.slice (N9 a c (i+ys.length)<|Enc.sz Pt) ((xs.length+ys.length) - (i+ys.length))<|c - (i+ys.length)),(72,e7<|(i:Int)+((ys.length:Nat):Int)),(71,e7 ((ys.length:Nat):Int)),(70,e7<|(i:Int)),(69,.slice a (xs.length+ys.length) c),(68,.bool true),(0,.slice a (xs.length+ys.length) c),(8,e7 ((xs.length:Nat):Int)),(7,e7 ((ys.length:Nat):Int)),(1,e7<|(i:Int)),(2,.slice va ys.length M)]:Env) (vec 105 (Enc.sz Pt) (.slice a (xs.length+ys.length) c) (xs.length+ys.length) (List.take ((i+ys.length)*Enc.sz Pt) (cells xs++js)++List.take ((xs.length - i)*Enc.sz Pt) (List.drop (i*Enc.sz Pt)<|cells xs++js)++List.drop ((i+ys.length)*Enc.sz Pt+(xs.length - i)*Enc.sz Pt) (cells xs++js))::vc 105 (.slice va ys.length M) (ys)::I)
 refine Dz<|Ao<|A0 (S3 0 1 2)<|Am<|Gm C<|Gm C<|Gr (C2 (l:=i) Ax s9 C C om om om)<|Gm C<|Ge0 (Eff.cg3 (sz:=Enc.sz Pt) (n:=xs.length+ys.length) (cs:=(List.take ((i+ys.length)*Enc.sz Pt) (cells xs++js)++List.take ((xs.length - i)*Enc.sz Pt) (List.drop (i*Enc.sz Pt)<|cells xs++js)++List.drop ((i+ys.length)*Enc.sz Pt+(xs.length - i)*Enc.sz Pt) (cells xs++js))) (k:=i) (q:=ys.length) Ax s9 C om C (show Sl κ _ (.slice va ys.length M) ys from (Cy (e:=105) (xs:=ys) mm)) om om (λu hu=>cells_one ys u<|Hx hu) C am) ?_
 show G prog κ _ _ _ _ ([(82,e7 ((ys.length:Nat):Int)),(81,.slice va ys.length M),(80,.slice (N9 a c i<|Enc.sz Pt) ((xs.length+ys.length) - i)<|c - i),(79,e7<|(i:Int)),(78,.slice a (xs.length+ys.length) c),(0,.slice a (xs.length+ys.length) c),(1,e7<|(i:Int)),(2,.slice va ys.length M)]:Env) (vec 105 (Enc.sz Pt) (.slice a (xs.length+ys.length) c) (xs.length+ys.length) (List.take (i*Enc.sz Pt) (List.take ((i+ys.length)*Enc.sz Pt) (cells xs++js)++List.take ((xs.length - i)*Enc.sz Pt) (List.drop (i*Enc.sz Pt)<|cells xs++js)++List.drop ((i+ys.length)*Enc.sz Pt+(xs.length - i)*Enc.sz Pt) (cells xs++js))++List.take (ys.length*Enc.sz Pt) (cells ys)++List.drop (i*Enc.sz Pt+ys.length*Enc.sz Pt) (List.take ((i+ys.length)*Enc.sz Pt) (cells xs++js)++List.take ((xs.length - i)*Enc.sz Pt) (List.drop (i*Enc.sz Pt)<|cells xs++js)++List.drop ((i+ys.length)*Enc.sz Pt+(xs.length - i)*Enc.sz Pt) (cells xs++js)))::vc 105 (.slice va ys.length M) (ys)::I)
 refine Ar<|Am<|Gm C<|Ga C<|Ar<|B2<|Cw ?_
 have hC:(List.take (i*Enc.sz Pt) (List.take ((i+ys.length)*Enc.sz Pt) (cells xs++js)++List.take ((xs.length - i)*Enc.sz Pt) (List.drop (i*Enc.sz Pt)<|cells xs++js)++List.drop ((i+ys.length)*Enc.sz Pt+(xs.length - i)*Enc.sz Pt) (cells xs++js))++List.take (ys.length*Enc.sz Pt) (cells ys)++List.drop (i*Enc.sz Pt+ys.length*Enc.sz Pt) (List.take ((i+ys.length)*Enc.sz Pt) (cells xs++js)++List.take ((xs.length - i)*Enc.sz Pt) (List.drop (i*Enc.sz Pt)<|cells xs++js)++List.drop ((i+ys.length)*Enc.sz Pt+(xs.length - i)*Enc.sz Pt) (cells xs++js)))=cells (List.take i xs++ys++List.drop i xs):=be2 hi ak
 exact Ak C C (vc 105 (.slice a (List.take i xs++ys++List.drop i xs).length c) (List.take i xs++ys++List.drop i xs)::I) (by rw [hC];show Fit κ _ (vec 105 _ (.slice a (List.take i xs++ys++List.drop i xs).length c) (List.take i xs++ys++List.drop i xs).length (cells<|List.take i xs++ys++List.drop i xs)::I);rw [ah];exact Az) ⟨a,c,by rw [ah],rfl⟩
end Go.Sl
namespace Go.Sl
open Go.Proofs
set_option maxRecDepth 4000
variable{c:Nat}{xs:List Int}
variable {κ:Ctx}{I:List Item}
theorem cj6{e:TypeId}{ad:Option Addr}(M:xs.length<4611686018427387904):eu prog κ 163 [.slice ad xs.length c] (vc e (.slice ad xs.length c) xs::I) λr J=>r = .tuple #[]/\J=vc e (.slice ad xs.length c) (V6 xs)::I:=
 (dc8 (κ:=κ) (I:=I) Tryz.gd6 (e:=e) (ad:=ad) (c:=c) M).mono λr J ⟨h1,h2⟩=>⟨h1,by rw [h2,ad3]⟩
theorem ah0{a:Option Addr}(hl:Sl κ I (.slice a xs.length c) xs)(hb:xs.length<=1000000000):eu prog κ 128 [.slice a xs.length c] I (λr J=>∃a' c',r = .slice a' xs.length c'/\J=vk 3 a' c' xs::I):=by
 refine Bw (p:=a.isNone=true->xs=[]/\c=0) (λw hs hn=>hl.isNone w hs hn) λM=>?_
 refine Ce1 Tryz.func128 C C ?_
 refine Am<|Ga C<|Ar<|Ay<|Am<|Gm C<|Gr (j7.dz0 Ab C C)<|Ar<|Dq C (λc4=>?_)<|λc4=>?_
 ·refine Am (Ga C<|Ar<|B2<|Cw ?_)
  obtain ⟨ad,_⟩:=M c4
  subst ad
  exact Ak C C (vk 3 none 0 ([]:List Int)::I) (B6 _ _) ⟨none,0,rfl,rfl⟩
 refine Bc<|Ao<|Am<|Ge1 (Eff.bs0 (α:=Int) Ab ef C) λae=>?_
 refine Gm C<|Ge2 (Bp (α:=Int) (e:=3) (xs:=([]:List Int)) (ys:=xs) Ab ef C C C mm (A4 hl) tb3 dc C<|λ_ _=>am) λab aa=>?_
 exact Ga C<|Ar<|B2<|Ak C C (vk 3 ab aa xs::I) Ai ⟨ab,aa,rfl,rfl⟩
end Go.Sl
namespace Go.Sl
open Go.Proofs
set_option maxRecDepth 4000
variable{a:Option Addr}{c i:Nat}{es xs ys:List Pt}{v va vb:Value}{nd:Int}
variable {κ:Ctx}{I:List Item}
attribute [local irreducible] W G V D A j7 Eff
theorem ay3:EqT prog 105 Pt:=EqT.flat (λp:Pt=>[p.u,p.v]) (λ_=>rfl) (λx y h=>by cases x;cases y;simpa using h) (n:=2) (λ_=>rfl) kr kr kr kr kr
theorem cz6{j:Nat}(ad:i<j)(hj:j<=xs.length)(ab:xs.length<=1000000000):eu prog κ 274 [.slice a xs.length c,e7 ((i:Int)),e7 ((j:Int))] (vk 105 a c xs::I) (λr J=>r = .slice a (List.take i xs++List.drop j xs).length c/\vk 105 a c (List.take i xs++List.drop j xs)::I=J):=by
 refine Bw (vc.cap A_) λaa=>?_
 have ae:(List.take i xs++List.drop j xs).length=i+(xs.length - j):=by simp only [By,Fr,Fz];omega
 refine Ce3 Tryz.func274 C C<|Z ?_
 refine Gr (j7.ge9 (l:=i) (h:=j) (q:=xs.length) Ax s9 C C om C om C om om om om)<|Z ?_
 refine Al C (λM=>?_)<|λM=>Z ?_
 ·exact absurd M om
 refine A9 mixed<|Bx I 8<|Z ?_
 refine Dr 2 C (E3 (h:=i) Ax s9 C C om om)<|Z ?_
 refine Dr 5 C (C2 (l:=j) Ax s9 C C om om om)<|Ds1 6<|Se0 C (Eff.gh2 (α:=Pt) (xs:=xs) (i:=i) (j:=j) Ax s9 C C C om om om C am)<|Z ?_
 refine Gr (j7.fm8 (l:=(List.take i xs++List.drop j xs).length) (h:=xs.length) Ax s9 C C om C om om om)<|Ge0 (Eff.fz8 (α:=Pt) (xs:=(List.take i xs++List.drop j xs)) (k:=(List.take i xs++List.drop j xs).length) (h:=xs.length) Ax s9 (G6.cons C<|G6.cons C G6.nil) C C C C om om am)<|Z ?_
 exact Ak C C _ (Dd _) ⟨rfl,rfl⟩
theorem fh0(hl:Sl κ I v xs)(x:Pt){g:FuncId}{M:List Value}{cf:Pt->Pt->Int}(aa:gc7 prog κ I g M cf)(ao:xs.length<=1000000000000):eu prog κ 189 [v,.agg #[e7 (x.u),e7 (x.v)],.func (.func g) #[] M.toArray] I (λr J=>∃i b,r = .tuple #[e7 ((i:Nat):Int),.bool b]/\U5 cf xs x i b/\I=J):=by
 refine Bw hl.le λak=>?_
 refine Ce3 Tryz.func189 C C ?_
 refine Am<|Ge1 (Au (cs:=[_,_]) C C C) λb1=>Z ?_
 refine Dh (σ:=Nat×Nat) (λs=>[(9,e7 ((s.1:Nat):Int)),(10,e7 ((s.2:Nat):Int))]) (λ_=>[]) (λs=>(s.1<=s.2)/\(s.2<=xs.length)/\(0<s.1->cf (e_ xs<|(s.1:Int) - 1) x<0)/\(s.2<xs.length->¬cf (e_ xs s.2) x<0)) (λs=>s.2 - s.1) (0,xs.length) (show ((0:Nat)<=(xs.length:Nat))/\((xs.length:Nat)<=xs.length)/\(0<(0:Nat)->cf (e_ xs<|((0:Nat):Int) - 1) x<0)/\((xs.length:Nat)<xs.length->¬cf (e_ xs ((xs.length:Nat):Int)) x<0) from ⟨om,om,(λh=>absurd h dc),(λh=>absurd h om)⟩) ?_
 rintro ⟨i,j⟩ hp
 dsimp only at hp ⊢
 obtain ⟨an,hj,ae,ab⟩:=hp
 refine Z ?_
 refine Al C (λaj=>Z ?_)<|λaj=>Z ?_
 ·refine Gr (j7.fz3 Cb D4 C om) (Gr (j7.gi8 C C)<|Gr (j7.dm1 D4 Cb C<|by unfold InR;omega)<|Z ?_)
  refine A9 mixed<|Bx (e8 b1 [e7 (x.u),e7<|x.v] 105::I) 8<|Z ?_
  refine Ds1 6<|Se C (Cx aa.1 (first:=[]) (caps:=M) C C C<|aa.2 (e_ xs<|((i:Int)+(j:Int)) / 2) x _ Ah) ?_
  rintro _ _ ⟨_,_,⟨rfl,rfl⟩,rfl,rfl⟩
  refine ⟨Ai,?_⟩
  refine Z ?_
  refine Al C (λad=>Z ?_)<|λad=>Z ?_
  ·exact Bt (((i+j) / 2+1),(j))<|by dsimp only;exact ⟨om,om,(λ_=>by rw [show (((i+j) / 2+1:Nat):Int) - 1=((i:Int)+(j:Int)) / 2 by omega];exact ad),ab⟩
  exact Bt ((i),((i+j) / 2))<|by dsimp only;exact ⟨om,om,ae,(λ_=>by rw [show (((i+j) / 2:Nat):Int)=((i:Int)+(j:Int)) / 2 by omega];exact ad)⟩
 refine A9 mixed<|Bx (e8 b1 [e7 (x.u),e7<|x.v] 105::I) 16<|Z ?_
 refine Dk (d:=39) C (λai=>Z ?_)<|λai=>?_
 ·refine Ds1 11 (Se C (Cx aa.1 (first:=[]) (caps:=M) C C C<|aa.2 (e_ xs i) x _ Ah) ?_)
  rintro _ _ ⟨_,_,⟨rfl,rfl⟩,rfl,rfl⟩
  refine ⟨Ai,?_⟩
  refine Z ?_
  have ah:i=j:=by omega
  subst ah
  exact C3 C C C I Ah ⟨i,_,rfl,⟨hj,ae,ab,(Ft.2 ⟨λh=>⟨by omega,h⟩,λh=>h.2⟩)⟩,rfl⟩
 refine Dpo 5 C<|Z ?_
 have ah:i=j:=by omega
 subst ah
 exact C3 C C C I Ah ⟨i,_,rfl,⟨hj,ae,ab,((D_<|λh=>by omega).symm)⟩,rfl⟩
variable {κ:Ctx}{I:List Item}
theorem tb1{p:Prop}(h:p:=by unfold bt1;rw [B_ om]):p:=h
theorem V0(hl:Sl κ I v es):eu prog κ 86 [.agg #[e7 nd,v]] I (λr J=>r=e7 (F6 nd es)/\I=J):=by
 refine Bw hl.le λai=>?_
 refine Ce1 Tryz.func86 C C ?_
 refine Am<|Ge1 (Au (cs:=[_,_]) C C C) λb1=>Z ?_
 refine A1 (d:=8) C (λg8=>Z ?_)<|λg8=>Z ?_
 ·exact Ak C C I Ah ⟨by rw [show F6 nd es=1 from (by unfold F6;rw [B_ om])],rfl⟩
 refine Al C (λc12=>Z ?_)<|λc12=>Z ?_
 ·exact Ak C C I Ah ⟨by rw [show F6 nd es=1 from (by unfold F6;rw [B_ om])],rfl⟩
 refine Dh (σ:=Nat) (λs=>[(16,e7 ((s:Nat):Int))]) (λ_=>[]) (λs=>(s<=es.length)/\(F6 nd es=P5 (bt1 nd) Pt.lt (R9 es s) (es.drop s))) (λs=>es.length - s) 0 (show ((0:Nat)<=es.length)/\(F6 nd es=P5 (bt1 nd) Pt.lt (R9 es (0:Nat)) (es.drop (0:Nat))) from ⟨om,(by unfold F6;rw [An om];rfl)⟩) ?_
 rintro k hp
 obtain ⟨hk,hs⟩:=hp
 refine Z ?_
 refine Al C (λab=>Z ?_)<|λab=>Z ?_
 ·refine Ge1 (Aj s9 C) λb2=>Ga C (Ge0 (Cr s9)<|Z ?_)
  refine A1 (d:=25) C (λae=>Z ?_)<|λae=>Z ?_
  ·exact Ak C C I Ah ⟨by rw [show F6 nd es=6 from (hs.trans<|(C5 om<|by unfold bt1;rw [B_ om];decide).trans tb1)],rfl⟩
  refine A1 (d:=32) C (λad=>Z ?_)<|λad=>Z ?_
  ·exact Ak C C I Ah ⟨by rw [show F6 nd es=6 from (hs.trans<|(C5 om<|by unfold bt1;rw [B_ om];decide).trans tb1)],rfl⟩
  refine Al C (λah=>Z ?_)<|λah=>?_
  ·exact Ak C C I Ah ⟨by rw [show F6 nd es=6 from (hs.trans<|(C5 om<|by unfold bt1;rw [B_ om];decide).trans tb1)],rfl⟩
  refine Ay<|A9 mixed<|Bx (e8 b2 [e7 ((e_ es k).u),e7<|(e_ es k).v] 105::e8 b1 [e7 nd,v] 38::I) 14<|Z ?_
  refine Dk (d:=42) C (λM=>Z ?_)<|λM=>?_
  ·refine Ds1 10 (Se C (Ac c_ C C<|cq2 (e_ es<|(k:Int) - 1)<|e_ es k) ?_)
   rintro _ _ ⟨_,_,⟨rfl,rfl⟩,rfl,rfl⟩
   refine ⟨Ah,?_⟩
   refine Z ?_
   refine Al C (λaa=>Z ?_)<|λaa=>Z ?_
   ·exact Ak C C I Ah ⟨by rw [show F6 nd es=5 from (hs.trans<|af1 om (W1.2 om) om (λh=>by have:=(Pt.V8 _ _).2 h;omega))],rfl⟩
   exact Bt ((k+1)) ⟨om,(hs.trans<|E2 om (W1.2 om)<|λh0=>by first|omega|exact (Pt.V8 _ _).1 om)⟩
  refine Dpo 3 C<|Z ?_
  exact Bt ((k+1)) ⟨om,(hs.trans<|E2 om (W1.2 om)<|λh0=>by first|omega|exact (Pt.V8 _ _).1 om)⟩
 exact Ak C C I Ah ⟨by rw [show F6 nd es=0 from (hs.trans<|aq3 om)],rfl⟩
theorem ta6{p:Prop}(h:p:=by first|exact Gb Value.bool (Ft.2<|by unfold F5;omega)|exact Gb Value.bool (As<|by unfold F5;omega).symm|exact Gb Value.bool (D_<|by unfold F5;omega).symm):p:=h
theorem ci6(nd u v:Int):eu prog κ 267 [e7 nd,e7 u,e7 v] I (λr J=>r = .bool (decide (F5 nd u v))/\I=J):=by
 have ab:((if v<u then v else u)<=u/\(if v<u then v else u)<=v/\((if v<u then v else u)=u\/(if v<u then v else u)=v))/\(u<=(if u<v then v else u)/\v<=(if u<v then v else u)/\((if u<v then v else u)=u\/(if u<v then v else u)=v)):=by refine ⟨⟨?_,?_,?_⟩,⟨?_,?_,?_⟩⟩<;>split<;>omega
 refine Ce3 Tryz.func267 C C<|Z ?_
 refine A1 (d:=10) C (λaa=>Z ?_)<|λaa=>Z ?_
 ·refine A1 (d:=16) C (λM=>Z ?_) (λM=>Z ?_)
  ·exact Ak C C I Ah ⟨ta6,rfl⟩
  exact Ak C C I Ah ⟨ta6,rfl⟩
 exact Ak C C I Ah ⟨ta6,rfl⟩
theorem cr2(u v:Int):eu prog κ 188 [e7 u,e7 v] I (λr J=>r = .agg #[e7 (j4 u v).u,e7 (j4 u v).v]/\I=J):=by
 refine Ce2 Tryz.func188 C C ?_
 refine Am<|Ge1 (Aj s9 C) λb1=>Z ?_
 refine Ge0 (Cr s9) ?_
 exact Ar<|B2<|Ej C s9 C mm C I Ah ⟨rfl,rfl⟩
theorem cc4(hl:Sl κ I va es)(u v:Int):eu prog κ 268 [.agg #[e7 nd,va],e7 u,e7 v] I (λr J=>r=e7 (T8 nd es u v)/\I=J):=by
 refine Ce3 Tryz.func268 C C ?_
 refine Am<|Ge1 (Au (cs:=[_,_]) C C C) λb1=>Z ?_
 refine Gc0 (Ac c_ C C<|V0<|A4 hl)<|Z ?_
 refine Al C (λc11=>Z ?_)<|λc11=>Z ?_
 ·exact Ak C C I Ah ⟨by unfold T8;rw [B_ om],rfl⟩
 refine Gc0 (Ac c_ C C<|ci6 nd u v)<|Z ?_
 refine Al C (λM=>Z ?_)<|λM=>Z ?_
 ·exact Ak C C I Ah ⟨by unfold T8;rw [An om,An asm],rfl⟩
 exact Ak C C I Ah ⟨by unfold T8;rw [An om,B_<|Fv.1 asm],rfl⟩
theorem cy3:gc7 prog κ I 131 [] Pt.cmp:=⟨c_,λx y J M=>cq2 x y⟩
theorem bt7(hl:Sl κ I va es)(u v:Int)(hb:es.length<=1000000000):eu prog κ 172 [.agg #[e7 nd,va],e7 u,e7 v] I (λr J=>∃i q,r = .tuple #[e7 ((i:Nat):Int),.bool (decide (i<es.length/\e_ es ((i:Nat):Int)=(j4 u v)))]/\U5 Pt.cmp es (j4 u v) i q/\I=J):=by
 refine Bw hl.le λab=>?_
 refine Ce3 Tryz.func172 C C ?_
 refine Am<|Ge1 (Au (cs:=[_,_]) C C C) λb1=>Z ?_
 refine Gc0 (Ac c_ C C<|cr2 u v) ?_
 refine Ge1 (Aj s9 C) λb2=>Ge0 (Cr s9)<|Z ?_
 refine G.e (Ac c_ C C<|fh0 (A4 hl) (j4 u v) cy3 om) ?_
 rintro _ _ ⟨_,_,⟨M,q4,rfl,hi3,rfl⟩,rfl,rfl⟩
 refine Z ?_
 refine A9 mixed<|Bx (e8 b2 [e7 ((j4 u v).u),e7<|(j4 u v).v] 105::e8 b1 [e7 nd,va] 38::I) 17<|Z ?_
 refine Dk (d:=27) C (λaa=>Z ?_)<|λaa=>?_
 ·refine Dro 13 C (j7.ft0 (α:=Pt) (a:=(e_ es M)) (b:=(j4 u v)) ay3 C C) (Z ?_)
  exact C3 C C C I Ah ⟨M,q4,Gb (λb_=>Value.tuple #[e7 (M:Int),.bool b_])<|Ft.2 ⟨λh=>⟨by omega,h⟩,λh=>h.2⟩,hi3,rfl⟩
 refine Dpo 7 C<|Z ?_
 exact C3 C C C I Ah ⟨M,q4,Gb (λb_=>Value.tuple #[e7 (M:Int),.bool b_]) (D_<|λh=>by omega).symm,hi3,rfl⟩
theorem ci2{va:Option Addr}{n m M:Nat}{K:List Item}(hf:Fit κ I (vc 105 (.slice a n c) xs::vc 105 (.slice va m M) ys::K))(hn:n=xs.length)(hm:m=ys.length)(hi:i<=xs.length)(hy:0<ys.length)(aa:xs.length+ys.length<=1000000000):eu prog κ 269 [.slice a n c,e7 (i:Int),.slice va m M] I (λr J=>∃a' c',r = .slice a' (List.take i xs++ys++List.drop i xs).length c'/\J=vk 105 a' c' (List.take i xs++ys++List.drop i xs)::K):=by
 subst hn hm
 exact Cl hf<|cz3 hi hy aa
theorem tb0{p:Prop}(h:p:=by simp only [E_];omega):p:=h
theorem fs6{nd:Int}{a0:Option Addr}{c0:Nat}{es:List Pt}(hl:Sl κ I (.slice a0 es.length c0) es)(u v:Int)(hb:es.length<=10000000):eu prog κ 261 [.agg #[e7 nd,.slice a0 es.length c0],e7 u,e7 v] I (λr J=>(da6 nd es u v≠0/\r = .tuple #[.agg #[e7 0,.slice none 0 0],e7 (da6 nd es u v)]/\I=J)\/(∃a c,da6 nd es u v=0/\r = .tuple #[.agg #[e7 nd,.slice a (z8 Pt.lt es (j4 u v)).length c],e7 0]/\J=vc 105 (.slice a (z8 Pt.lt es (j4 u v)).length c) (z8 Pt.lt es (j4 u v))::I)):=by
 refine Ce3 Tryz.func261 C C ?_
 refine Am (Ge1 (Au (cs:=[_,_]) C C C) λb1=>Ge1 (Aj J9 C) λb2=>Ga C (Ar (Ay (Am (Gl2 J9 ?_)))))
 refine Gm C (Gm C (Gc0 (Ac c_ C C (cc4 (A4 hl) u v)) ?_))
 refine Ga C (Ar (Am (Gm C (Gr (Ci C C) (Ar (Al C (λc16=>?_) (λc16=>?_)))))))
 ·refine Am (Gr (Cm (cells:=[_,_]) J9 Ez fw6 C C) (Gm C (Ge0 (Cr J9) ?_)))
  refine Ga C (Ar (A0 (S2 7 6 C C) (B2 (Cw ?_))))
  have hz:da6 nd es u v=T8 nd es u v:=by unfold da6;rw [B_ om]
  exact Co C J9 C C mm C I Ah (.inl ⟨by rw [hz];omega,by rw [hz],rfl⟩)
 refine Bc (Ao (Am (Gl2 J9 ?_)))
 refine Gm C (Gm C (G.e (Ac c_ C C (bt7 (A4 hl) u v om)) ?_))
 rintro _ _ ⟨_,_,⟨i3,q4,rfl,hi3,rfl⟩,rfl,rfl⟩
 have hG:=(ac0.1 (by omega:T8 nd es u v=0)).1
 have hile:=hi3.le
 refine Gm C (Gr (Bk C C) (Gr (Bk C C) (Ga C (Ga C (Ar (A0 (S6 10 9 6 3 1 2 C C C C C C) (Ay (Am (Gm C (Ar (Al C (λc26=>?_) (λc26=>?_))))))))))))
 ·refine Am (Gr (Cm (cells:=[_,_]) J9 Ez fw6 C C) (Ge0 (Cr J9) ?_))
  refine Ga C (Ar (B2 (Cw ?_)))
  have hz:da6 nd es u v=15:=by unfold da6;rw [An om,B_ ((hi3.mem hG.asc).1 c26)]
  exact Co C J9 C C mm C I Ah (.inl ⟨by rw [hz];decide,by rw [hz],rfl⟩)
 refine Bc (Ao (Ay (A9 mixed (Bx (e8 b2 [e7 0,.slice none 0 0] 38::e8 b1 [e7 nd,.slice a0 es.length c0] 38::I) 12 (Dr 0 C (Af ag1 C) (Dr 1 C (Bf ef) ?_))))))
 refine Dr 2 C (Af K5 C) (Dr 3 C (Bf am8) ?_)
 refine Dr 5 C (Aq C) (Dr 6 C (Aq C) (Dr 7 C (Aq C) (Ds1 4 (Sc2 C (Ac c_ C C (an3 (xs:=es) (A4 hl) om)) λad5 cp6=>?_))))
 refine Ds1 8 (Sc0 C (Ac c_ C C (cr2 u v)) ?_)
 refine Ds1 9 (Se1 C (B0 (α:=Pt) (cs:=[_,_]) (xs:=[⟨(j4 u v).u,(j4 u v).v⟩]) Ax s9 C C dc dc C C C C) λad7=>?_)
 refine Ds1 10 (Sc2 C (Ac c_ C C (ci2 (i:=i3) (xs:=es) (ys:=([⟨(j4 u v).u,(j4 u v).v⟩]:List Pt)) (show Fit κ _ (vc 105 (.slice ad5 es.length cp6) (es)::vc 105 (.slice ad7 1 1) (([⟨(j4 u v).u,(j4 u v).v⟩]:List Pt))::e8 b2 [e7 0,.slice none 0 0] 38::e8 b1 [e7 nd,.slice a0 es.length c0] 38::I) from Az) C C om (by simp only [E_];omega) lcn)) λad8 cp9=>?_)
 show D prog κ _ _ _ _ _ _ _ ([(38,.slice ad8 (List.take i3 es++([⟨(j4 u v).u,(j4 u v).v⟩]:List Pt)++List.drop i3 es).length cp9),(37,.slice ad7 1 1),(36,.agg #[e7 ((j4 u v).u),e7 ((j4 u v).v)]),(32,.slice ad5 es.length cp6),(35,e7 v),(34,e7 u),(33,e7 ((i3:Int))),(31,.slice a0 es.length c0),(30,.pointer (some ⟨b1,1,none⟩)),(29,e7 nd),(28,.pointer (some ⟨b1,0,none⟩)),(26,.bool (decide (i3<es.length/\e_ es i3=j4 u v))),(10,.bool (decide (i3<es.length/\e_ es i3=j4 u v))),(9,e7 ((i3:Int))),(6,.pointer (some ⟨b2,0,none⟩)),(3,.pointer (some ⟨b1,0,none⟩)),(1,e7 u),(2,e7 v)]:Env) (vc 105 (.slice ad8 (List.take i3 es++([⟨(j4 u v).u,(j4 u v).v⟩]:List Pt)++List.drop i3 es).length cp9) (List.take i3 es++([⟨(j4 u v).u,(j4 u v).v⟩]:List Pt)++List.drop i3 es)::e8 b2 [e7 0,.slice none 0 0] 38::e8 b1 [e7 nd,.slice a0 es.length c0] 38::I)
 refine Dr 11 C (Cm (cells:=[_,_]) J9 Ez fw6 C C) (Cg kr ?_)
 refine Ae 12 C (Cr J9) ?_
 rintro _ _ ⟨rfl,rfl⟩
 refine Dg (i:=13) kr C (Ap C) C C (Be C) ?_
 refine Ch kr ?_
 refine Ao (A0 (S2 7 6 C C) (B2 ?_))
 have hz:da6 nd es u v=0:=by unfold da6;rw [An om,An (λhm=>c26 ((hi3.mem hG.asc).2 hm))]
 have hE:List.take i3 es++([⟨(j4 u v).u,(j4 u v).v⟩]:List Pt)++List.drop i3 es=(z8 Pt.lt es (j4 u v)):=hi3.ins hG.asc (λhm=>c26 ((hi3.mem hG.asc).2 hm))
 exact Co C J9 C C mm C (vc 105 (.slice ad8 (z8 Pt.lt es (j4 u v)).length cp9) (z8 Pt.lt es (j4 u v))::I) (by rw [←hE];exact Ai) (.inr ⟨ad8,cp9,hz,by rw [←hE];rfl,rfl⟩)
variable {κ:Ctx}{I:List Item}
theorem ca9(hx:Sl κ I va xs)(hy:Sl κ I vb ys):eu prog κ 64 [va,vb] I (λr J=>r = .bool (decide (xs=ys))/\I=J):=by
 refine Bw hx.le λad=>?_
 refine Bw hy.le λab=>?_
 refine Ce2 Tryz.func64 C C<|Z ?_
 refine Al C (λc10=>Z ?_)<|λc10=>Z ?_
 ·exact Ak C C I Ah ⟨by rw [D_ (show ¬xs=ys from λe=>by first|(have e2:=Gb List.length e;omega)|(have e3:=Gb (λl=>e_ l k) e;exact absurd e3 asm))],rfl⟩
 refine Dh (σ:=Nat) (λs=>[(13,e7 ((s:Nat):Int))]) (λ_=>[]) (λs=>(s<=xs.length)/\(∀j,j<s->e_ xs j=e_ ys j)) (λs=>xs.length - s) 0 (show ((0:Nat)<=xs.length)/\(∀j,j<(0:Nat)->e_ xs j=e_ ys j) from ⟨om,E9⟩) ?_
 rintro k hp
 obtain ⟨hk,hn⟩:=hp
 refine Z ?_
 refine Al C (λaa=>Z ?_)<|λaa=>Z ?_
 ·refine A9 mixed (Bx I 9<|Z ?_)
  refine Dr 8 C (j7.fx9 (α:=Pt) (a:=(e_ xs k)) (b:=(e_ ys k)) ay3 C C)<|Z ?_
  refine Al C (λM=>Z ?_)<|λM=>Z ?_
  ·exact Ak C C I Ah ⟨by rw [D_ (show ¬xs=ys from λe=>by first|(have e2:=Gb List.length e;omega)|(have e3:=Gb (λl=>e_ l k) e;exact absurd e3 asm))],rfl⟩
  exact Bt ((k+1)) ⟨om,(Dp hn<|Fv.1 M)⟩
 exact Ak C C I Ah ⟨by rw [As (show xs=ys from fi7 om (λj hj=>hn j om))],rfl⟩
theorem at3{n m:Int}(hx:Sl κ I va xs)(hy:Sl κ I vb ys):eu prog κ 24 [.agg #[e7 n,va],.agg #[e7 m,vb]] I (λr J=>r = .bool (decide (n=m/\xs=ys))/\I=J):=by
 refine Ce2 Tryz.func24 C C ?_
 refine Am<|Ge1 (Au (cs:=[_,_]) C C C) λb1=>Ge1 (Au (cs:=[_,_]) C C C) λb2=>Z ?_
 refine A1 (d:=10) C (λM=>Z ?_)<|λM=>Z ?_
 ·refine Dj (Cf C C C) (Ac c_ C C<|ca9 (A4 hx)<|A4 hy) ?_
  rintro _ _ ⟨_,_,⟨rfl,rfl⟩,rfl,rfl⟩
  refine Z ?_
  exact Ak C C I Ah ⟨Gb Value.bool<|Ft.2 ⟨λh=>⟨by assumption,h⟩,λh=>h.2⟩,rfl⟩
 exact Ak C C I Ah ⟨Gb Value.bool (D_ (λh=>by have:=h.1;omega)).symm,rfl⟩
variable {κ:Ctx}{I:List Item}
def H8(v:Int):BitVec 64:=if v<0\/64<=v then 0#64 else 1#64 <<< v.toNat
def bd5(l:List Int):BitVec 64:=l.foldl (λm v=>m ||| H8 v) 0#64
def at1(n:Int):BitVec 64:=if n<=0 then 0#64 else if 64<=n then 18446744073709551615#64 else (1#64 <<< n.toNat) - 1#64
def dv7(m:BitVec 64):BitVec 64:=((m >>> (1:Int).toNat) &&& 6148914691236517205#64)+(m &&& 6148914691236517205#64)
def dv6(m:BitVec 64):BitVec 64:=((m >>> (2:Int).toNat) &&& 3689348814741910323#64)+(m &&& 3689348814741910323#64)
def bx3(m:BitVec 64):BitVec 64:=((m >>> (4:Int).toNat)+m) &&& 1085102592571150095#64
def bq4(m:BitVec 64):BitVec 64:=m+(m >>> (8:Int).toNat)
def bx2(m:BitVec 64):BitVec 64:=m+(m >>> (16:Int).toNat)
def ct0(m:BitVec 64):BitVec 64:=m+(m >>> (32:Int).toNat)
def ac5(m:BitVec 64):Int:=((ct0 (bx2 (bq4 (bx3 (dv6 (dv7 m)))))).toNat:Int) % 128
theorem cs9(m:BitVec 64):(ct0 (bx2 (bq4 (bx3 m)))).toNat<9223372036854775808:=by
 have h3:(bx3 m).toNat<=1085102592571150095:=by unfold bx3;rw [Ky];exact Nat.and_le_right
 generalize bx3 m=a at h3
 have h4:(bq4 a).toNat<=a.toNat+a.toNat / 256:=by
  unfold bq4;rw [Jy,Hw,Hu,show 2 ^ (8:Int).toNat=256 by decide];exact Nat.mod_le _ _
 generalize bq4 a=b at h4
 have M:(bx2 b).toNat<=b.toNat+b.toNat / 65536:=by
  unfold bx2;rw [Jy,Hw,Hu,show 2 ^ (16:Int).toNat=65536 by decide];exact Nat.mod_le _ _
 generalize bx2 b=c at M
 have h6:(ct0 c).toNat<=c.toNat+c.toNat / 4294967296:=by
  unfold ct0;rw [Jy,Hw,Hu,show 2 ^ (32:Int).toNat=4294967296 by decide];exact Nat.mod_le _ _
 omega
theorem ac3(v:Int):eu prog κ 156 [e7 v] I (λr J=>r=U64 (H8 v)/\I=J):=by
 refine Ce1 Tryz.func156 C C<|Z ?_
 refine A1 (d:=5) C (λg5=>Z ?_)<|λg5=>Z ?_
 ·exact Ak C C I Ah ⟨by unfold H8;rw [B_ om];rfl,rfl⟩
 refine Al C (λM=>Z ?_)<|λM=>Z ?_
 ·exact Ak C C I Ah ⟨by unfold H8;rw [B_ om];rfl,rfl⟩
 exact Gr (j7.gb6 (a:=1#64) C C om om)<|Ga C<|Ar<|B2<|Ak C C I Ah ⟨by unfold H8;rw [An om],rfl⟩
theorem cy6(n:Int):eu prog κ 157 [e7 n] I (λr J=>r=U64 (at1 n)/\I=J):=by
 refine Ce1 Tryz.func157 C C<|Z ?_
 refine Al C (λc3=>Z ?_)<|λc3=>Z ?_
 ·exact Ak C C I Ah ⟨by unfold at1;rw [B_ om];rfl,rfl⟩
 refine Al C (λM=>Z ?_)<|λM=>Z ?_
 ·exact Ak C C I Ah ⟨by unfold at1;rw [An om,B_ om];rfl,rfl⟩
 exact Gr (j7.gb6 (a:=1#64) C C om om)<|Gr (j7.gi6 (a:=(1#64) <<< (n).toNat) (b:=1#64) C C)<|Ga C<|Ar<|B2<|Ak C C I Ah ⟨by unfold at1;rw [An om,An om],rfl⟩
theorem cb4(m:BitVec 64):eu prog κ 176 [U64 m] I (λr J=>r=e7 (ac5 m)/\I=J):=by
 refine Ce1 Tryz.func176 C C<|Z ?_
 refine Gr (Fh (a:=m) C C om om)<|Gr (Eg (a:=m >>> (1:Int).toNat) (b:=6148914691236517205#64) C C)<|Gm C<|Gr (Eg (a:=m) (b:=6148914691236517205#64) C C)<|Gr (j7.ft5 (a:=(m >>> (1:Int).toNat) &&& (6148914691236517205#64)) (b:=m &&& (6148914691236517205#64)) C C)<|Z ?_
 generalize hm1:((m >>> (1:Int).toNat) &&& (6148914691236517205#64))+(m &&& (6148914691236517205#64))=m1
 refine Z ?_
 refine Gr (Fh (a:=m1) C C om om)<|Gr (Eg (a:=m1 >>> (2:Int).toNat) (b:=3689348814741910323#64) C C)<|Gm C<|Gr (Eg (a:=m1) (b:=3689348814741910323#64) C C)<|Gr (j7.ft5 (a:=(m1 >>> (2:Int).toNat) &&& (3689348814741910323#64)) (b:=m1 &&& (3689348814741910323#64)) C C)<|Z ?_
 generalize hm2:((m1 >>> (2:Int).toNat) &&& (3689348814741910323#64))+(m1 &&& (3689348814741910323#64))=m2
 refine Z ?_
 refine Gr (Fh (a:=m2) C C om om)<|Gm C<|Gr (j7.ft5 (a:=m2 >>> (4:Int).toNat) (b:=m2) C C)<|Gr (Eg (a:=(m2 >>> (4:Int).toNat)+m2) (b:=1085102592571150095#64) C C)<|Z ?_
 generalize hm3:((m2 >>> (4:Int).toNat)+m2) &&& (1085102592571150095#64)=m3
 refine Z ?_
 refine Gr (Fh (a:=m3) C C om om)<|Gr (j7.ft5 (a:=m3) (b:=m3 >>> (8:Int).toNat) C C)<|Z ?_
 generalize hm4:m3+(m3 >>> (8:Int).toNat)=m4
 refine Z ?_
 refine Gr (Fh (a:=m4) C C om om)<|Gr (j7.ft5 (a:=m4) (b:=m4 >>> (16:Int).toNat) C C)<|Z ?_
 generalize hm5:m4+(m4 >>> (16:Int).toNat)=m5
 refine Z ?_
 refine Gr (Fh (a:=m5) C C om om)<|Gr (j7.ft5 (a:=m5) (b:=m5 >>> (32:Int).toNat) C C)<|Z ?_
 generalize hm6:m5+(m5 >>> (32:Int).toNat)=m6
 refine Z ?_
 exact Gr (j7.toI Tryz.underlying207 Cb C<|by subst hm6 hm5 hm4 hm3;exact cs9 _)<|Gr (j7.ga4 C C om)<|Ga C<|Ar<|B2<|Ak C C I Ah ⟨by subst hm6 hm5 hm4 hm3 hm2 hm1;rfl,rfl⟩
theorem bh1(m:BitVec 64):eu prog κ 155 [U64 m] I (λr J=>r=e7 (ac5 m)/\I=J):=by
 refine Ce1 Tryz.func155 C C<|Z ?_
 refine Gc0 (Ac c_ C C<|cb4 m) ?_
 exact Ga C<|Ar<|B2<|Ak C C I Ah ⟨rfl,rfl⟩
end Go.Sl
namespace Go.Sl
open Go.Proofs
set_option maxRecDepth 4000
variable{v:Int}{i:Nat}
theorem fb1(M:0<=v)(h1:v<64):H8 v=BitVec.twoPow 64 v.toNat:=by
 unfold H8;rw [An om];rfl
theorem cf0(hi:i<64):(H8 v).getLsbD i=decide (v=(i:Int)):=by
 by_cases h:0<=v/\v<64
 ·rw [fb1 h.1 h.2,BitVec.getLsbD_twoPow]
  have e:(v.toNat=i)↔(v=(i:Int)):=by omega
  simp [hi,h,e]
 unfold H8
 rw [B_ om]
 have:¬v=(i:Int):=by omega
 simp [this]
theorem ay2(hi:i<64):∀(l:List Int) (m:BitVec 64),(l.foldl (λm v=>m ||| H8 v) m).getLsbD i=(m.getLsbD i||decide ((i:Int)∈l))
 |[],m=>by simp
 |v::l,m=>by
  rw [H_,ay2 hi l,Le,cf0 hi]
  by_cases h1:v=(i:Int)
  ·simp [h1]
  have:¬(i:Int)=v:=λe=>h1 e.symm
  simp [h1,this]
end Go.Sl
namespace Go.Sl
open Go.Proofs
set_option maxRecDepth 4000
variable{nd:Int}{v:Value}{es:List Pt}
variable {κ:Ctx}{I:List Item}
attribute [local irreducible] W G V D A j7 Eff
theorem bg4{rows:List (BitVec 64)}{e:Pt}(h:¬(0<=e.u/\e.u<e.v/\e.v<rows.length)):X5 rows e=rows:=by unfold X5;rw [An h]
theorem at4(hl:Sl κ I v es):eu prog κ 154 [.agg #[e7 nd,v]] I (λr J=>∃a c,r = .slice a (ek nd es).length c/\J=vk 207 a c (ek nd es)::I):=by
 refine Bw hl.le λao=>?_
 refine Ce1 Tryz.func154 C C ?_
 refine Am<|Ge1 (Au (cs:=[_,_]) C C C) λb1=>Z ?_
 refine Ge2 (Dl (α:=(BitVec 64)) (n:=(min (max nd 0) 64).toNat) Cp M3 C C C om om dc C) λab ad=>Z ?_
 have an:(replicate (min (max nd 0) 64).toNat (default:(BitVec 64))).length=(min (max nd 0) 64).toNat:=F_
 refine Z ?_
 refine Dh (σ:=Nat×(List<|BitVec 64)) (λs=>[(14,e7 ((s.1:Nat):Int))]) (λs=>[vc 207 (.slice ab (replicate ((min (max nd 0) 64).toNat) (default:(BitVec 64))).length ad) (s.2)]) (λs=>(s.1<=es.length)/\(s.2=ek nd (es.take s.1))/\(s.2.length=(min (max nd 0) 64).toNat)) (λs=>es.length - s.1) (0,replicate (min (max nd 0) 64).toNat (default:(BitVec 64))) (show ((0:Nat)<=es.length)/\((replicate (min (max nd 0) 64).toNat (default:(BitVec 64)):List (BitVec 64))=ek nd (es.take (0:Nat)))/\((replicate (min (max nd 0) 64).toNat (default:(BitVec 64)):List (BitVec 64)).length=(min (max nd 0) 64).toNat) from ⟨om,rfl,(by simp)⟩) ?_
 rintro ⟨k,rows⟩ hp
 dsimp only at hp ⊢
 obtain ⟨hk,hr,aa⟩:=hp
 refine Z ?_
 refine Al C (λah=>Z ?_)<|λah=>Z ?_
 ·refine Ge1 (Aj s9 C) λb4=>Ge0 (Cr s9) (Z ?_)
  refine A1 (d:=21) C (λaj=>Z ?_)<|λaj=>Z ?_
  ·refine A1 (d:=28) C (λak=>Z ?_) (λak=>Z ?_)
   ·refine Al C (λai=>?_) (λai=>Z ?_)
    ·refine Ay (A9 mixed<|Bx (e8 b4 [e7 ((e_ es k).u),e7<|(e_ es k).v] 105::vc 207 (.slice ab (replicate ((min (max nd 0) 64).toNat) (default:(BitVec 64))).length ad) (rows)::e8 b1 [e7 nd,v] 38::I) 10<|Z ?_)
     refine Dr 7 C (j7.gb6 (a:=1#64) C C om om)<|Dr 8 C (Eb (a:=(e_ rows<|(e_ es k).u)) (b:=(1#64) <<< ((e_ es k).v).toNat) C C)<|Z ?_
     refine Cg kr ?_
     refine Ae 10 C (Cv (α:=(BitVec 64)) (xs:=rows) (e:=207) (new:=(e_ rows<|(e_ es k).u) ||| ((1#64) <<< ((e_ es k).v).toNat)) M3 C C C om oo am) ?_
     rintro _ _ ⟨rfl,rfl⟩
     refine Ch kr<|Z ?_
     refine A9 mixed<|Bx (e8 b4 [e7 ((e_ es k).u),e7<|(e_ es k).v] 105::vc 207 (.slice ab (replicate ((min (max nd 0) 64).toNat) (default:(BitVec 64))).length ad) (List.set rows ((e_ es k).u).toNat ((e_ rows<|(e_ es k).u) ||| ((1#64) <<< ((e_ es k).v).toNat)))::e8 b1 [e7 nd,v] 38::I) 10<|Z ?_
     refine Dr 7 C (j7.gb6 (a:=1#64) C C om om)<|Dr 8 C (Eb (a:=(e_ (List.set rows ((e_ es k).u).toNat ((e_ rows<|(e_ es k).u) ||| ((1#64) <<< ((e_ es k).v).toNat)))<|(e_ es k).v)) (b:=(1#64) <<< ((e_ es k).u).toNat) C C)<|Z ?_
     refine Cg kr ?_
     refine Ae 10 C (Cv (α:=(BitVec 64)) (xs:=List.set rows ((e_ es k).u).toNat ((e_ rows<|(e_ es k).u) ||| ((1#64) <<< ((e_ es k).v).toNat))) (e:=207) (new:=(e_ (List.set rows ((e_ es k).u).toNat ((e_ rows<|(e_ es k).u) ||| ((1#64) <<< ((e_ es k).v).toNat)))<|(e_ es k).v) ||| ((1#64) <<< ((e_ es k).u).toNat)) M3 C C C om oo am) ?_
     rintro _ _ ⟨rfl,rfl⟩
     refine Ch kr<|Z ?_
     have M:List.set (List.set rows ((e_ es k).u).toNat ((e_ rows<|(e_ es k).u) ||| ((1#64) <<< ((e_ es k).v).toNat))) ((e_ es k).v).toNat ((e_ (List.set rows ((e_ es k).u).toNat ((e_ rows<|(e_ es k).u) ||| ((1#64) <<< ((e_ es k).v).toNat)))<|(e_ es k).v) ||| ((1#64) <<< ((e_ es k).u).toNat))=X5 rows (e_ es k):=by unfold X5;rw [B_ om]
     rw [M]
     exact Bt ((k+1),(X5 rows<|e_ es k))<|by dsimp only;exact ⟨om,(by rw [ad5 om,←hr];first|done|exact M),(by first|exact aa|(rw [Z3];exact aa))⟩
    have M:rows=X5 rows (e_ es k):=(bg4 om).symm
    exact Bt ((k+1),(rows))<|by dsimp only;exact ⟨om,(by rw [ad5 om,←hr];first|done|exact M),(by first|exact aa|(rw [Z3];exact aa))⟩
   have M:rows=X5 rows (e_ es k):=(bg4 om).symm
   exact Bt ((k+1),(rows))<|by dsimp only;exact ⟨om,(by rw [ad5 om,←hr];first|done|exact M),(by first|exact aa|(rw [Z3];exact aa))⟩
  have M:rows=X5 rows (e_ es k):=(bg4 om).symm
  exact Bt ((k+1),(rows))<|by dsimp only;exact ⟨om,(by rw [ad5 om,←hr];first|done|exact M),(by first|exact aa|(rw [Z3];exact aa))⟩
 rw [Fx om] at hr
 subst hr
 have ae:(ek nd es).length=(replicate (min (max nd 0) 64).toNat (default:(BitVec 64))).length:=by omega
 exact Ak C C (vk 207 ab ad (ek nd es)::I) (by unfold vk;rw [ae];exact Ai) ⟨_,_,by rw [ae],rfl⟩
theorem cz7{F:Item->List Item}{a:Option Addr}{n c i j:Nat}{xs:List Pt}(ab:AtF I (vc 105 (.slice a n c) xs) F)(hn:n=xs.length)(M:i<j)(hj:j<=xs.length)(aa:xs.length<=1000000000):eu prog κ 274 [.slice a n c,e7 (i:Int),e7 (j:Int)] I λr J=>∃ys:List Pt,(r = .slice a (List.take i xs++List.drop j xs).length c/\ys=(List.take i xs++List.drop j xs))/\J=[]++F (vk 105 a c ys):=
 Fo (Z:=λ_=>[]) (X:=λys:List Pt=>vk 105 a c ys) (Post:=λr ys=>r = .slice a (List.take i xs++List.drop j xs).length c/\ys=(List.take i xs++List.drop j xs)) ab λJ _ _=>by subst hn;exact (cz6 M hj aa).mono λr J' h=>⟨_,⟨h.1,rfl⟩,h.2.symm⟩
theorem fq9{nd:Int}{a0:Option Addr}{c0:Nat}{es:List Pt}(hl:Sl κ I (.slice a0 es.length c0) es)(u v:Int)(hb:es.length<=10000000):eu prog κ 263 [.agg #[e7 nd,.slice a0 es.length c0],e7 u,e7 v] I (λr J=>(da5 nd es u v≠0/\r = .tuple #[.agg #[e7 0,.slice none 0 0],e7 (da5 nd es u v)]/\I=J)\/(∃a c,da5 nd es u v=0/\r = .tuple #[.agg #[e7 nd,.slice a (j6 es (j4 u v)).length c],e7 0]/\J=vc 105 (.slice a (j6 es (j4 u v)).length c) (j6 es (j4 u v))::I)):=by
 refine Ce3 Tryz.func263 C C ?_
 refine Am (Ge1 (Au (cs:=[_,_]) C C C) λb1=>Ge1 (Aj J9 C) λb2=>Z ?_)
 refine Gc0 (Ac c_ C C (cc4 (A4 hl) u v)) (Z ?_)
 refine Al C (λc16=>Z ?_) (λc16=>Z ?_)
 ·refine Ge0 (Cr J9) (Z ?_)
  have hz:da5 nd es u v=T8 nd es u v:=by unfold da5;rw [B_ om]
  exact Co C J9 C C mm C I Ah (.inl ⟨by rw [hz];omega,by rw [hz],rfl⟩)
 refine G.e (Ac c_ C C (bt7 (A4 hl) u v om)) ?_
 rintro _ _ ⟨_,_,⟨i3,q4,rfl,hi3,rfl⟩,rfl,rfl⟩
 have hG:=(ac0.1 (by omega:T8 nd es u v=0)).1
 have hile:=hi3.le
 refine Gm C (Gr (Bk C C) (Gr (Bk C C) (Ga C (Ga C (Ar (A0 (S4 10 9 6 3 C C C C) (Ay (Am (Gm C (Gr (j7.fm6 C) (Ar (Al C (λc27=>?_) (λc27=>?_)))))))))))))
 ·refine Am (Gr (Cm (cells:=[_,_]) J9 Ez fw6 C C) (Ge0 (Cr J9) ?_))
  refine Ga C (Ar (B2 (Cw ?_)))
  have hz:da5 nd es u v=7:=by unfold da5;rw [An om,An (λhm=>c27 ((hi3.mem hG.asc).2 hm))]
  exact Co C J9 C C mm C I Ah (.inl ⟨by rw [hz];decide,by rw [hz],rfl⟩)
 refine Bc (Ao (Ay (A9 mixed (Bx (e8 b2 [e7 0,.slice none 0 0] 38::e8 b1 [e7 nd,.slice a0 es.length c0] 38::I) 10 (Dr 0 C (Af ag1 C) (Dr 1 C (Bf ef) ?_))))))
 refine Dr 2 C (Af K5 C) (Dr 3 C (Bf am8) ?_)
 refine Dr 5 C (Aq C) (Dr 6 C (Aq C) (Dr 7 C (Rad C C) (Ds1 4 (Sc2 C (Ac c_ C C (an3 (xs:=es) (A4 hl) om)) λad5 cp6=>?_))))
 refine Ds1 8 (Se C (Ac c_ C C (cz7 (i:=i3) (j:=(i3+1)) (by repeat (first|exact AtF.head _ _|apply AtF.tail)) C om om om)) ?_)
 rintro _ _ ⟨_,_,⟨_,⟨rfl,rfl⟩,rfl⟩,rfl,rfl⟩
 refine ⟨Ai,?_⟩
 show D prog κ _ _ _ _ _ _ _ ([(37,.slice ad5 (List.take i3 es++List.drop (i3+1) es).length cp6),(33,.slice ad5 es.length cp6),(36,e7 ((i3:Int)+1)),(35,e7 ((i3:Int))),(34,e7 ((i3:Int))),(32,.slice a0 es.length c0),(31,.pointer (some ⟨b1,1,none⟩)),(30,e7 nd),(29,.pointer (some ⟨b1,0,none⟩)),(27,.bool (decide (¬(i3<es.length/\e_ es i3=j4 u v)))),(26,.bool (decide (i3<es.length/\e_ es i3=j4 u v))),(10,.bool (decide (i3<es.length/\e_ es i3=j4 u v))),(9,e7 ((i3:Int))),(6,.pointer (some ⟨b2,0,none⟩)),(3,.pointer (some ⟨b1,0,none⟩))]:Env) (vc 105 (.slice ad5 (List.take i3 es++List.drop (i3+1) es).length cp6) (List.take i3 es++List.drop (i3+1) es)::e8 b2 [e7 0,.slice none 0 0] 38::e8 b1 [e7 nd,.slice a0 es.length c0] 38::I)
 refine Z ?_
 refine Cg kr ?_
 refine Ae 10 C (Cr J9) ?_
 rintro _ _ ⟨rfl,rfl⟩
 refine Dg (i:=11) kr C (Ap C) C C (Be C) ?_
 refine Ch kr (Z ?_)
 have hz:da5 nd es u v=0:=by unfold da5;rw [An om,B_ ((hi3.mem hG.asc).1 (Fv.1 c27))]
 have hE:List.take i3 es++List.drop (i3+1) es=(j6 es (j4 u v)):=hi3.del hG.asc ((hi3.mem hG.asc).1 (Fv.1 c27))
 exact Co C J9 C C mm C (vc 105 (.slice ad5 (j6 es (j4 u v)).length cp6) (j6 es (j4 u v))::I) (by rw [←hE];exact Ai) (.inr ⟨ad5,cp6,hz,by rw [←hE];rfl,rfl⟩)
variable {κ:Ctx}{I:List Item}
theorem V1(hl:Sl κ I v es):eu prog κ 51 [.agg #[e7 nd,v]] I (λr J=>r=e7 (F6 nd es)/\I=J):=by
 refine Bw hl.le λai=>?_
 refine Ce1 Tryz.func51 C C ?_
 refine Am<|Ge1 (Au (cs:=[_,_]) C C C) λb1=>Z ?_
 refine A1 (d:=8) C (λg8=>Z ?_)<|λg8=>Z ?_
 ·exact Ak C C I Ah ⟨by rw [show F6 nd es=1 from (by unfold F6;rw [B_ om])],rfl⟩
 refine Al C (λc12=>Z ?_)<|λc12=>Z ?_
 ·exact Ak C C I Ah ⟨by rw [show F6 nd es=1 from (by unfold F6;rw [B_ om])],rfl⟩
 refine Dh (σ:=Nat) (λs=>[(16,e7 ((s:Nat):Int))]) (λ_=>[]) (λs=>(s<=es.length)/\(F6 nd es=P5 (bt1 nd) Pt.lt (R9 es s) (es.drop s))) (λs=>es.length - s) 0 (show ((0:Nat)<=es.length)/\(F6 nd es=P5 (bt1 nd) Pt.lt (R9 es (0:Nat)) (es.drop (0:Nat))) from ⟨om,(by unfold F6;rw [An om];rfl)⟩) ?_
 rintro k hp
 obtain ⟨hk,hs⟩:=hp
 refine Z ?_
 refine Al C (λab=>Z ?_)<|λab=>Z ?_
 ·refine Ge1 (Aj s9 C) λb2=>Ga C (Ge0 (Cr s9)<|Z ?_)
  refine A1 (d:=24) C (λah=>Z ?_)<|λah=>Z ?_
  ·exact Ak C C I Ah ⟨by rw [show F6 nd es=6 from (hs.trans<|(C5 om<|by unfold bt1;rw [B_ om];decide).trans tb1)],rfl⟩
  refine A1 (d:=31) C (λaa=>Z ?_)<|λaa=>Z ?_
  ·exact Ak C C I Ah ⟨by rw [show F6 nd es=6 from (hs.trans<|(C5 om<|by unfold bt1;rw [B_ om];decide).trans tb1)],rfl⟩
  refine Al C (λad=>Z ?_)<|λad=>?_
  ·exact Ak C C I Ah ⟨by rw [show F6 nd es=6 from (hs.trans<|(C5 om<|by unfold bt1;rw [B_ om];decide).trans tb1)],rfl⟩
  refine Bc<|Ao<|Ay<|A9 mixed<|Bx (e8 b2 [e7 ((e_ es k).u),e7<|(e_ es k).v] 105::e8 b1 [e7 nd,v] 38::I) 13<|Z ?_
  refine Dk (d:=40) C (λae=>Z ?_)<|λae=>?_
  ·refine Ds1 10 (Sc0 C (Ac c_ C C<|ag7 (e_ es<|(k:Int) - 1)<|e_ es k)<|Z ?_)
   refine Al C (λM=>Z ?_)<|λM=>Z ?_
   ·exact Ak C C I Ah ⟨by rw [show F6 nd es=5 from (hs.trans<|af1 om (W1.2 om) om<|by first|assumption|simpa using M)],rfl⟩
   exact Bt ((k+1)) ⟨om,(hs.trans<|E2 om (W1.2 om)<|λh0=>by first|omega|exact Fv.1 asm|assumption)⟩
  refine Dpo 3 C<|Z ?_
  exact Bt ((k+1)) ⟨om,(hs.trans<|E2 om (W1.2 om)<|λh0=>by first|omega|exact Fv.1 asm|assumption)⟩
 exact Ak C C I Ah ⟨by rw [show F6 nd es=0 from (hs.trans<|aq3 om)],rfl⟩
theorem dq9(u v:Int):eu prog κ 143 [e7 u,e7 v] I (λr J=>r = .agg #[e7 (j4 u v).u,e7 (j4 u v).v]/\I=J):=by
 refine Ce2 Tryz.func143 C C ?_
 refine Am<|Ge1 (Aj s9 C) λb1=>Z ?_
 refine Ge0 (Cr s9) ?_
 exact Ar<|B2<|Ej C s9 C mm C I Ah ⟨rfl,rfl⟩
end Go.Sl
namespace Go.Sl
open Go.Proofs
set_option maxRecDepth 4000
variable{ad:Option Addr}{c n:Nat}
section
variable {P:Program}{κ:Ctx}{N:Frm}{L:Env}{I J:List Item}{d:Option Tmp}{ty:TypeId}{ps:String}{af:Array Edge}{gd:Option (Nat×Bool)}
theorem vc.isSome{α:Type}[Enc α]{xs:List α}{e:TypeId}(h:vc e (.slice ad n c) xs∈I):∀w,Sep κ w I->(0<xs.length->ad≠none):=λw hs hlt=>by
 obtain ⟨b,o,cap,M,_⟩:=((Cy (κ:=κ) h) w hs).some hlt
 cases M
 exact λhh=>by cases hh
theorem j7.idxs(α:Type)[Enc α]{x y:Operand}{T E by':Nat}{ag:Bool}{z:List Value}{i:Int}(ht:P.underlying T=some (.slice E))(hE:tyF P E=some (Enc.sz α,ag,by',z))(hx:er L x=some (.slice ad n c))
  (hy:er L y=some (e7 i)) (M:ad≠none) (h0:0<=i) (hn:i<n):j7 P κ N ⟨d,.indexAddr T x y,ty,ps,af,gd⟩ L J (F1 (.slice ad n c)<|i.toNat*Enc.sz α):=by
 cases ad with
 |none=>exact absurd rfl M
 |some ad=>exact λa w M hs=>by simp [execOp,M.eval hx,M.eval hy,Instr.indexAt,asIntOf,run_underlying ht,h0,hn,run_sizeOf hE,F1]
end
end Go.Sl
namespace Go.Sl
open Go.Proofs
set_option maxRecDepth 4000
variable{xs:List Lk}{nd:Int}{va:Value}
variable {κ:Ctx}{I:List Item}
attribute [local irreducible] W G V D A j7 Eff
theorem ag2{k:Nat}(h:k<xs.length):j8 (xs.take (k+1))=j8 (xs.take k)++[(⟨(e_ xs k).u,(e_ xs k).v⟩:Pt)]:=by
 unfold j8;rw [Ca xs k h,Ht];rfl
theorem dq1(hl:Sl κ I va xs)(ah:xs.length<=100000):eu prog κ 108 [.agg #[e7 nd,va]] I (λr J=>∃a c,r = .agg #[e7 nd,.slice a (j8 xs).length c]/\J=vk 105 a c (j8 xs)::I):=by
 refine Bw hl.le λab=>?_
 refine Ce1 Tryz.func108 C C ?_
 refine Am<|Ge1 (Au (cs:=[_,_]) C C C) λb1=>Ge1 (Aj J9 C) λb2=>Z ?_
 refine Ge1 (Aj J9 C) λb3=>Ge0 (Cr J9)<|Z ?_
 refine Dh (σ:=Nat×(Option Addr)×Nat×(List Pt)) (λs=>[(12,e7 ((s.1:Nat):Int))]) (λs=>[vk 105 s.2.1 s.2.2.1 s.2.2.2,e8 b3 [e7 nd,.slice s.2.1 s.2.2.2.length s.2.2.1] 38]) (λs=>(s.1<=xs.length)/\(s.2.2.2=j8 (xs.take s.1))) (λs=>xs.length - s.1) (0,none,0,[]) (show ((0:Nat)<=xs.length)/\(([]:List Pt)=j8 (xs.take (0:Nat))) from ⟨om,rfl⟩) (hI:=(B6 _ _)) ?_
 rintro ⟨k,a,c,out⟩ hp
 dsimp only at hp ⊢
 obtain ⟨hk,ho⟩:=hp
 have ad:out.length=k:=by rw [ho,G7,Fr];omega
 refine Z ?_
 refine Al C (λc13=>Z ?_)<|λc13=>Z ?_
 ·refine Ge1 (Aj J7 C) λb4=>Ge0 (Fl J7) (Z ?_)
  refine Ge1 (B0 (α:=Pt) (cs:=[_,_]) (xs:=[⟨(e_ xs k).u,(e_ xs k).v⟩]) Ax s9 C C dc dc C C C C) λae=>?_
  refine Ge2 (Bp (α:=Pt) (e:=105) (xs:=out) (ys:=([⟨(e_ xs k).u,(e_ xs k).v⟩]:List Pt)) Ax s9 C C C mm A5 lcn dc C<|λ_ _=>am) λaa M=>?_
  refine Gf K5 C<|Ge0 (Fc am8)<|Z ?_
  exact Bt ((k+1),(aa),(M),(out++([⟨(e_ xs k).u,(e_ xs k).v⟩]:List Pt)))<|by dsimp only;exact ⟨om,(by rw [ag2 om,←ho])⟩
 refine Ge0 (Cr J9)<|Z ?_
 have hE:out=j8 xs:=by rw [ho,Fx om]
 exact Ej C J9 C mm C (vk 105 a c (j8 xs)::I) (by unfold vk;rw [←hE];exact Az) ⟨a,c,by rw [←hE]<;>rfl,rfl⟩
theorem cc2(hl:Sl κ I va xs)(hv:p9 nd xs=0)(ab:xs.length<=100000):eu prog κ 57 [.agg #[e7 nd,va]] I (λr J=>∃a c,r = .tuple #[.agg #[e7 nd,.slice a (j8 xs).length c],e7 0]/\J=vk 105 a c (j8 xs)::I):=by
 refine Ce1 Tryz.func57 C C ?_
 refine Am<|Ge1 (Au (cs:=[_,_]) C C C) λb1=>Ge1 (Aj J9 C) λb2=>Z ?_
 refine G.e (Ac c_ C C<|bh7 (nd:=nd)<|A4 hl) ?_
 rintro _ _ ⟨_,_,⟨rfl,rfl⟩,rfl,rfl⟩
 refine Z ?_
 refine Al C (λc8=>?_)<|λc8=>Z ?_
 ·exact absurd hv c8
 refine G.e (Ac c_ C C<|dq1 (nd:=nd) (A4 hl) om) ?_
 rintro _ _ ⟨_,_,⟨M,aa,rfl,rfl⟩,rfl,rfl⟩
 refine Ge0 (Cr J9) ?_
 exact Ga C<|Ar<|B2<|Co C J9 C C mm C (vk 105 M aa (j8 xs)::I) Az ⟨M,aa,rfl,rfl⟩
end Go.Sl
namespace Go.Sl
open Go.Proofs
set_option maxRecDepth 4000
end Go.Sl
namespace Go.Sl
end Go.Sl
namespace Go.Sl
end Go.Sl
namespace Go.Sl
end Go.Sl
namespace Go.Sl
def ae9(N:Nat)(R:Int->Bool):List Int:=((List.range N).map λk=>((k:Nat):Int)).filter R
theorem cs3(N:Nat)(R:Int->Bool):ae9 (N+1) R=ae9 N R++if R (N:Int) then [(N:Int)] else []:=by
 unfold ae9
 rw [List.range_succ,Ht,Gs]
 congr 1
 by_cases h:R (N:Int)<;>simp [h]
theorem bw3(N:Nat)(R:Int->Bool):(ae9 N R).length<=N:=by
 have:=Gw R ((List.range N).map λk=>((k:Nat):Int))
 simpa [ae9] using this
theorem ai5{N:Nat}{R:Int->Bool}{z:Int}:z∈ae9 N R↔(0<=z/\z<N)/\R z=true:=by
 unfold ae9
 rw [Gj,Gz]
 constructor
 ·rintro ⟨⟨k,M,rfl⟩,h⟩
  exact ⟨⟨by omega,by have:=Ja.1 M;omega⟩,h⟩
 rintro ⟨⟨h0,h1⟩,h⟩
 exact ⟨⟨z.toNat,Ja.2 om,by omega⟩,h⟩
end Go.Sl
namespace Go.Sl
end Go.Sl
namespace Go.Sl
section
variable {f side:List Int}{val:Int}
theorem bc3(N:Nat)(R:Int->Bool):aj7 (ae9 N R) (N:Int):=by
 induction N with
 |zero=>exact cw1 _
 |succ N ih=>
  rw [cs3]
  split
  ·have:=ch2 ih om
   exact this
  rw [Gt];exact ch3 ih om
end
end Go.Sl
namespace Go.Sl
end Go.Sl
namespace Go.Sl
open Go.Proofs
set_option maxRecDepth 4000
theorem ar8:cc1 (λa b:Int=>a<b):=⟨λa h=>by omega,λa b c h1 M=>by omega,λa b=>by omega⟩
theorem de0(x:Int):∀l,an1 l x=z8 (λa b:Int=>a<b) l x
 |[]=>rfl
 |y::ys=>by simp only [an1,z8,de0 x ys]
theorem fx4(l:List Int):ofL l=dc9 (λa b:Int=>a<b) l:=by
 unfold ofL dc9
 congr 1
 funext acc x
 exact de0 x acc
theorem T0(l:List Int):(ofL l).Pairwise (λa b:Int=>a<b):=by rw [fx4];exact ar8.dc9 l
theorem ae4{l:List Int}{N:Int}:aj7 l N↔(∀x∈l,0<=x/\x<N)/\l.Pairwise (λa b:Int=>a<b):=by
 constructor
 ·intro h
  refine ⟨λx M=>cw2 h M,bq1 ar8.tr λi hi=>?_⟩
  have:=(h (i+1) hi).2 om
  rwa [show ((i+1:Nat):Int) - 1=(i:Int) from by omega] at this
 rintro ⟨h1,h2⟩ j hj
 refine ⟨h1 _<|Bn om om,λh0=>?_⟩
 have:=(Fd l).1 h2 (j - 1) j om hj
 rwa [show ((j - 1:Nat):Int)=(j:Int) - 1 from by omega] at this
end Go.Sl
namespace Go.Sl
end Go.Sl
namespace Go.Sl
end Go.Sl
namespace Go.Sl
def ds3(nd:Int)(W:BitVec 64):Prop:=∀x∈eo W,x<nd
end Go.Sl
namespace Go.Sl
end Go.Sl
namespace Go.Sl
end Go.Sl
namespace Go.Sl
end Go.Sl
namespace Go.Sl
open Go.Proofs
set_option maxRecDepth 4000
end Go.Sl
