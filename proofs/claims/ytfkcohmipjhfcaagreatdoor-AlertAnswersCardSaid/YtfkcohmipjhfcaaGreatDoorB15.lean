/- A part of the proofs of statements of this seat: contracts of functions, and the plain laws that they lean on. No conditions. -/
import Derived.Test.YtfkcohmipjhfcaaGreatDoorB14
set_option linter.unusedVariables false
set_option linter.unusedSimpArgs false
set_option linter.unusedSectionVars false
open Go.Proofs.Tryz (prog)
open List (replicate)
set_option maxHeartbeats 2000000
namespace Go.Sl
open Go.Proofs
set_option maxRecDepth 4000
variable{n:Nat}{nd v:Int}{rows:List (BitVec 64)}{es:List Pt}
def bi0(nd:Int)(es:List Pt):List (Int×Nat):=ad8 (ek nd es) (K2 ((ek nd es).length:Int)) 0
def dx8(nd:Int)(es:List Pt):List Int:=de3 (ek nd es).length (bi0 nd es)
def ga0(nd:Int)(es:List Pt):List Int:=av8 (bi0 nd es)
def G5(nd:Int)(es:List Pt):List Int:=if p9 nd es≠0 then [] else dx8 nd es
def N0(nd:Int)(es:List Pt)(k:Int):List Int:=ap3 (G5 nd es).length λv=>decide (k<=e_ (G5 nd es) v)
theorem af7(h:n<=64){u:Int}:u∈em (K2 (n:Int))↔0<=u/\u<n:=by
 constructor
 ·intro M
  have E:=Fd M
  rw [Cz,K1 om om om,Gn] at M
  omega
 intro M
 rw [Cz,K1 om om om,Gn]
 omega
theorem ak1(nd:Int)(es:List Pt):(dx8 nd es).length=(ek nd es).length:=cv9 _ _
theorem fh1(l:List (Int×Nat)):(av8 l).length=l.length:=Gi ..
theorem br7(M:0<=v)(E:v<64):Q6 v=1#64 <<< v.toNat:=by unfold Q6;rw [An om]
theorem fm6(h:gc2 n rows){k:Int}(h0:0<=k)(E:k<n):X4 (e_ rows k)=((R6 rows (K2 (n:Int)) k:Nat):Int):=by
 rw [cv5]
 unfold R6
 congr 1
 refine ((Jq (Dv _)<|Dv _).2 λu=>?_).length_eq
 rw [J1]
 refine ⟨λM=>⟨M,(af7 h.le).2 ⟨(Fd M).1,h.lt k u h0 E M⟩⟩,λM=>M.1⟩
theorem fm9(h:gc2 n rows)(hn:1<=n)(left:BitVec 64)(v:Int):R6 rows left v<=n - 1:=by
 by_cases hv:v.toNat<n
 ·have e:e_ rows v=e_ rows v.toNat:=by show rows.getD v.toNat _=rows.getD ((v.toNat:Nat):Int).toNat _;rw [Hu]
  have:=bx5 h left (v:=(v.toNat:Int)) om om
  unfold R6 at this ⊢
  rw [e];omega
 have e:e_ rows v=0#64:=by
  unfold e_
  rw [Gs,Kk (by rw [h.len];omega)];rfl
 unfold R6
 rw [e,BitVec.zero_and,C5];simp
theorem am4(M:G8 nd es):gc2 (ek nd es).length (ek nd es):=by
 have h:=M.rows.symB M
 have e:=h.len
 rw [←e] at h;exact h
theorem dx3{left:BitVec 64}{M dd:Nat}{done:List (Int×Nat)}{all:List (Int×Nat)}(E:done++ad8 rows left M=all)(hT:ch3 rows left v)(hd:R6 rows left v=dd) :
  (done++[(v,max M dd)])++ad8 rows (left &&& ~~~(1#64 <<< v.toNat)) (max M dd)=all:=by
 rw [←E,bq9 hT,hd,H1];rfl
theorem fn3(h:n<=64):(em (K2 (n:Int))).length=n:=by
 have M:(em (K2 (n:Int))).Perm ((List.range n).map fun (i:Nat)=>(i:Int)):=(Jq (Dv _) (by
  exact Nm _ (λa b h=>by omega) (List.nodup_range (n:=n)))).2 λu=>by
  rw [af7 h,Ha]
  constructor
  ·intro E;exact ⟨u.toNat,Ht.2 om,by omega⟩
  rintro ⟨i,hi,rfl⟩;have:=Ht.1 hi;omega
 have:=M.length_eq
 rwa [Gi,Kq] at this
theorem fs1{κ:Ctx}{I:List Item}{va:Value}(hl:Sl κ I va es)(hG:G8 nd es)(hT:P6 κ I 0 F3):er prog κ 175 [.agg #[e7 nd,va]] I (λr J=>∃a c a' c',r = .tuple #[.slice a (ga0 nd es).length c,.slice a' (dx8 nd es).length c']/\J=vq 3 a c (ga0 nd es)::vq 3 a' c' (dx8 nd es)::I):=by
 have hS:=am4 hG
 have bv:=hS.le
 refine Ce1 Tryz.func175 C C ?_
 refine Aj<|Ge1 (Ay (cs:=[_,_]) C C C) λb1=>Ga C<|Ga C<|Aq<|W.gg5 (l:=0) C ?_
 refine Aj<|Gl2 H2 ?_
 refine G.e (Ac c_ C C<|bz4 (nd:=nd)<|Bc hl) ?_
 rintro _ _ ⟨_,_,⟨ad,ab,rfl,rfl⟩,rfl,rfl⟩
 have be:=ad1 nd es
 refine Ga C<|Aq<|Aj<|Ge1 (Ah gf3 C) λb4=>?_
 refine Aq<|Aj<|Gm C<|Gr (Bj Ds C)<|Ge2 (Ca (α:=Int) (n:=(ek nd es).length) Ab ef C C C om om dc C) λah aj=>?_
 refine Ga C<|Aq<|Ax<|Aj<|Gm C<|Gr (Bj Ds C)<|Gm C<|Aq<|A0 (S7 22 21 20 6 5 4 2)<|A3<|B4 (σ:=Nat×(List Int)×(List<|BitVec 64)) (λs=>([(2,.slice none 0 0),(4,.slice ad (ek nd es).length ab),(5,pt b4),(6,.slice ah (replicate ((ek nd es).length) (default:Int)).length aj),(20,.slice ad (ek nd es).length ab),(21,e7<|(((ek nd es).length:Nat):Int)),(22,e7 ((s.1:Nat):Int))]:Env)) (λs=>vc 3 (.slice ah (replicate ((ek nd es).length) (default:Int)).length aj) (s.2.1)::e8 b4 (cells (s.2.2:List (BitVec 64))) 264::vq 175 ad ab (ek nd es)::e8 b1 [e7 nd,va] 48::I) (λs=>(s.1<=(ek nd es).length)/\(az1 (ek nd es).length (λu=>0<=u/\u<((s.1:Nat):Int)) (R6 (ek nd es)<|K2 ((ek nd es).length:Int)) s.2.1 s.2.2)) (λs=>(ek nd es).length - s.1) (0,replicate ((ek nd es).length) (default:Int),replicate 64<|0#64) ⟨om,(az1.start _ _)⟩ (cx4<|cx2<|Aa Co A9) Ar ?_
 rintro ⟨k,dgs,bks⟩ hp
 dsimp only at hp ⊢
 obtain ⟨hk,hB⟩:=hp
 have b9:=hB.ge5
 have b5:=hB.ge7
 have a9:k<(ek nd es).length->X4 (e_ (ek nd es) k)=((R6 (ek nd es) (K2 ((ek nd es).length:Int)) (k:Int):Nat):Int):=λh=>fm6 hS om om
 have ay:k<(ek nd es).length->((R6 (ek nd es) (K2 ((ek nd es).length:Int)) (k:Int):Nat):Int)<64:=λh=>by have:=bx5 hS (K2 ((ek nd es).length:Int)) (v:=(k:Int)) om om;omega
 refine Aj<|Gr (Bp C C)<|Aq<|Ax<|Am C (λbi=>?_)<|λbi=>?_
 ·refine A4 (Al<|Ax<|A3<|Aj<|Gm C<|Gr (A2 (α:=(BitVec 64)) (xs:=ek nd es) Ds J8 C C A6 om oo)<|Gr (E5 (α:=(BitVec 64)) (xs:=ek nd es) (u:=U64 ((e_ (ek nd es) k))) J8 C A6 om oo C)<|Ga C<|Ga C<|Aq<|Aj<|Gm C<|Gm C<|Gm C<|Gc0 (Ac c_ C C<|cj2<|e_ (ek nd es) k) ?_)
  refine Gr (A2 (α:=Int) (xs:=dgs) Ab ef C C A6 om oo)<|Ge0 (Cr (α:=Int) (xs:=dgs) (e:=3) (new:=X4 (e_ (ek nd es) k)) ef C C C om oo am) ?_
  have a3:=a9 om
  have bp:=ay om
  have ba:e_ (List.set dgs ((k:Int)).toNat (X4<|e_ (ek nd es) k)) (k:Int)=((R6 (ek nd es) (K2 ((ek nd es).length:Int)) (k:Int):Nat):Int):=by rw [Dq _ _ _ _ om om om,By rfl,a3]
  refine Aq<|A0 (S8 7 2 4 5 6 20 21 22)<|A8 mixed<|C1 10<|Dr 0 C (Ad C)<|Dr 1 C (Ad C)<|Dr 2 C (A2 (α:=Int) (xs:=List.set dgs ((k:Int)).toNat (X4<|e_ (ek nd es) k)) Ab ef C C A6 om oo)<|Dr 3 C (B8 (xs:=List.set dgs ((k:Int)).toNat (X4<|e_ (ek nd es) k)) ef C A6 om oo)<|Dr 4 C (Cc C2 J8 C C om oo)<|Dr 5 C (Fs (xs:=bks) J8 C (D7 mm) om oo)<|Dr 6 C (Ad C)<|Ds1 7<|Se C (Ac c_ C C<|ac4 (k:Int)) ?_
  rintro _ _ ⟨_,_,⟨rfl,rfl⟩,rfl,rfl⟩
  refine ⟨Af,?_⟩
  refine Dr 8 C (Fh (a:=e_ bks (e_ (List.set dgs ((k:Int)).toNat (X4<|e_ (ek nd es) k)) (k:Int))) (b:=Q6 (k:Int)) C C)<|Dr 9 C (Cc C2 J8 C C om oo)<|De kr ?_
  refine Ae 10 C (Eff.fg2 (xs:=bks) (i:=e_ (List.set dgs ((k:Int)).toNat (X4<|e_ (ek nd es) k)) (k:Int)) (n:=(e_ bks<|e_ (List.set dgs ((k:Int)).toNat (X4<|e_ (ek nd es) k)) (k:Int)) ||| (Q6 (k:Int))) J8 C C C om oo am) ?_
  rintro _ _ ⟨rfl,rfl⟩
  refine Df kr ?_
  exact Ap<|Al<|A0 (S7 2 4 5 6 20 21 22)<|A1<|Gr (Rad C C)<|Gm C<|Bl<|Bh ((k+1),(List.set dgs ((k:Int)).toNat (X4<|e_ (ek nd es) k)),(List.set bks (e_ (List.set dgs ((k:Int)).toNat (X4<|e_ (ek nd es) k)) (k:Int)).toNat ((e_ bks<|e_ (List.set dgs ((k:Int)).toNat (X4<|e_ (ek nd es) k)) (k:Int)) ||| (Q6 (k:Int)))))<|by dsimp only;exact ⟨om,(by have hN:=hB.push (S':=λu=>0<=u/\u<((k+1:Nat):Int)) (v:=(k:Int)) (c:=((R6 (ek nd es) (K2 ((ek nd es).length:Int)) (k:Int):Nat):Int)) om om om (λu=>by constructor<;>intro h<;>omega) (λh=>by omega) C (ay om);rw [ba,a9 om,br7 om om];exact hN)⟩
 refine B6<|Ao<|Ao<|A5<|Al<|Aj<|Gm C<|Gr (Bj Ds C)<|Ge2 (Ca (α:=Int) (n:=(ek nd es).length) Ab ef C C C om om dc C) λae ai=>?_
 refine Ga C<|Aq<|Aj<|Gm C<|Gr (Bj Ds C)<|Gc0 (Ac c_ C C<|R2 (((ek nd es).length:Nat):Int)) ?_
 refine Ga C<|Aq<|A0 (S6 9 3 2 4 5 6)<|Aj<|Ga C<|Aq<|Ax<|W.label ?_
 refine Al<|Ax<|A3<|B4 (σ:=(List<|Int×Nat)×(BitVec 64)×Nat×(List Int)×(List<|BitVec 64)×(Option Addr)×Nat) (λs=>([(2,.slice s.2.2.2.2.2.1 (av8 s.1).length s.2.2.2.2.2.2),(3,.slice ae (replicate ((ek nd es).length) (default:Int)).length ai),(4,.slice ad (ek nd es).length ab),(5,pt b4),(6,.slice ah (replicate ((ek nd es).length) (default:Int)).length aj),(9,U64<|s.2.1),(10,e7 ((s.2.2.1:Nat):Int))]:Env)) (λs=>vq 3 s.2.2.2.2.2.1 s.2.2.2.2.2.2 (av8 s.1)::vc 3 (.slice ae (replicate ((ek nd es).length) (default:Int)).length ai) (de3 (ek nd es).length s.1)::vc 3 (.slice ah (replicate ((ek nd es).length) (default:Int)).length aj) (s.2.2.2.1)::e8 b4 (cells (s.2.2.2.2.1:List (BitVec 64))) 264::vq 175 ad ab (ek nd es)::e8 b1 [e7 nd,va] 48::I) (λs=>(s.1++ad8 (ek nd es) s.2.1 s.2.2.1=bi0 nd es)/\(az1 (ek nd es).length (λu=>u∈em s.2.1) (R6 (ek nd es) s.2.1) s.2.2.2.1 s.2.2.2.2.1)/\(s.1.length+(em s.2.1).length=(ek nd es).length)/\(s.2.2.1<=63)) (λs=>(em s.2.1).length) ([],(K2 ((ek nd es).length:Int)),0,dgs,bks,none,0) (show (([]:List (Int×Nat))++ad8 (ek nd es) ((K2 ((ek nd es).length:Int)):BitVec 64) (0:Nat)=bi0 nd es)/\(az1 (ek nd es).length (λu=>u∈em ((K2 ((ek nd es).length:Int)):BitVec 64)) (R6 (ek nd es) ((K2 ((ek nd es).length:Int)):BitVec 64)) (dgs:List Int) (bks:List (BitVec 64)))/\(([]:List (Int×Nat)).length+(em ((K2 ((ek nd es).length:Int)):BitVec 64)).length=(ek nd es).length)/\((0:Nat)<=63) from ⟨rfl,(hB.congr (λu=>(af7 hS.le).trans (by constructor<;>intro h<;>omega))<|λu _=>rfl),(by have:(em<|K2 ((ek nd es).length:Int)).length=(ek nd es).length:=fn3 hS.le;simp only [F_];omega),om⟩) (Aa (Da C<|by first|rfl|(rw [ai8])|simp)<|cx4<|Aa (Da C<|by first|rfl|(rw [ai8])|simp)<|Aa Co A9) (Bz (Bb (α:=Int) _ _) Bi) ?_
 rintro ⟨done,left,kk,a0,aa,ao,co⟩ hp
 dsimp only at hp ⊢
 obtain ⟨hc,an,ca,b8⟩:=hp
 have bz:=an.ge5
 have bt:=an.ge7
 have hold:=fh1 done
 have b6:=cv9 (ek nd es).length done
 have ap:∀u∈em left,R6 (ek nd es) left u<64:=λu hu=>by have hr:=an.rng u hu;have:=bx5 hS left hr.1 hr.2;omega
 refine Ax<|Aj<|Gm C<|Gr (E3 (a:=left) (b:=0#64) C C)<|Aq<|Am C (λa7=>?_)<|λa7=>?_
 ·refine A4 (Al<|A3<|Aj<|Gm C<|Aq<|A3<|B4 (σ:=Nat) (λs=>([(2,.slice ao (av8 done).length co),(3,.slice ae (replicate ((ek nd es).length) (default:Int)).length ai),(4,.slice ad (ek nd es).length ab),(5,pt b4),(6,.slice ah (replicate ((ek nd es).length) (default:Int)).length aj),(9,U64 left),(10,e7<|(kk:Int)),(51,e7 ((s:Nat):Int))]:Env)) (λs=>vq 3 ao co (av8 done)::vc 3 (.slice ae (replicate ((ek nd es).length) (default:Int)).length ai) (de3 (ek nd es).length done)::vc 3 (.slice ah (replicate ((ek nd es).length) (default:Int)).length aj) (a0)::e8 b4 (cells (aa:List (BitVec 64))) 264::vq 175 ad ab (ek nd es)::e8 b1 [e7 nd,va] 48::I) (λs=>(s<=64)/\(∀c:Int,0<=c->c<((s:Nat):Int)->e_ aa c=0#64)) (λs=>64 - s) 0 ⟨om,(λc h1 h2=>by omega)⟩ (cx4<|cx2<|Aa C<|Aa Co A9) Ar ?_)
  rintro dd hp
  obtain ⟨b7,hz⟩:=hp
  refine Aj<|Gr (Bp C C)<|Aq<|Ax<|Am C (λbf=>?_)<|λbf=>?_
  ·refine A4 (Al<|Ax<|A3<|Aj<|Gm C<|Ga C<|Aq<|Ax<|Aj<|Gm C<|Gr (Cc C2 J8 C C om oo)<|Gr (Fs (xs:=aa) J8 C (D7 mm) om oo)<|Gr (j0.eqB (a:=e_ aa dd) (b:=0#64) C C)<|Aq<|A0 (S10 57 11 2 3 4 5 6 9 10 51)<|Am C (λbb=>?_)<|λbb=>?_)
   ·exact B6<|Ao<|A5<|Al<|A1<|Gr (Rad C C)<|Gm C<|Bl<|Bh ((dd+1)) ⟨om,(λc h1 h2=>by by_cases e:c=(dd:Int);(· rw [e];assumption);(· exact hz c h1 om))⟩
   refine A4<|Al<|Aj<|Gm C<|Gr (Cc C2 J8 C C om oo)<|Gr (Fs (xs:=aa) J8 C (D7 mm) om oo)<|Gc0 (Ac c_ C C<|db3 (e_ aa dd)<|Cb hT Af) ?_
   have a6:=an.takes (d:=(dd:Int)) om om bb hz ap
   generalize hvE:tzB (e_ aa dd)=v at a6 ⊢
   obtain ⟨a8,bq⟩:=a6
   have aq:=a8.mem
   have b2:=an.rng v aq
   refine Ga C<|Aq<|A0 (S9 12 11 2 3 4 5 6 9 10)<|Aj<|Gm C<|Gm C<|Gr (j0.max C C) ?_
   have bh:(if (kk:Int)<(dd:Int) then (dd:Int) else (kk:Int))=(((max kk dd):Nat):Int):=by split<;>omega
   rw [bh]
   refine Ga C<|Aq<|A0 (S9 10 12 11 2 3 4 5 6 9)<|Aj<|Gm C<|Gm C<|Gm C<|Gr (A2 (α:=Int) (xs:=de3 (ek nd es).length done) Ab ef C C A6 om oo)<|Ge0 (Cr (α:=Int) (xs:=de3 (ek nd es).length done) (e:=3) (new:=(((max kk dd):Nat):Int)) ef C C C om oo am) ?_
   refine Aq<|Aj<|Gm C<|Gm C<|Ge1 (Bt (α:=Int) (cs:=[_]) (xs:=[v]) Ab ef C C dc dc C C C C) λbk=>?_
   refine Ge2 (Bv (α:=Int) (e:=3) (xs:=av8 done) (ys:=([v]:List Int)) Ab ef C C C mm A6 lcn dc C<|λ_ _=>am) λau ar=>?_
   refine Ga C<|Aq<|A0 (S9 2 10 12 11 3 4 5 6 9)<|Aj<|Gm C<|Gm C<|G.e (Ac c_ C C<|ac4 v) ?_
   rintro _ _ ⟨_,_,⟨rfl,rfl⟩,rfl,rfl⟩
   rw [show Q6 v=1#64 <<< (v).toNat from br7 om om]
   refine Gr (Ew (a:=left) (b:=1#64 <<< (v).toNat) C C)<|Ga C<|Aq<|A0 (S9 9 2 10 12 11 3 4 5 6)<|Ax<|A8 mixed<|C1 7<|Dr 0 C (Ad C)<|Dr 1 C (Cc C2 J8 C C om oo)<|Dr 2 C (Fs (xs:=aa) J8 C (D7 mm) om oo)<|Dr 3 C (Ad C)<|Ds1 4<|Se C (Ac c_ C C<|ac4 v) ?_
   rintro _ _ ⟨_,_,⟨rfl,rfl⟩,rfl,rfl⟩
   refine ⟨Af,?_⟩
   rw [show Q6 v=1#64 <<< (v).toNat from br7 om om]
   refine Dr 5 C (Ew (a:=e_ aa dd) (b:=1#64 <<< (v).toNat) C C)<|Dr 6 C (Cc C2 J8 C C om oo)<|De kr ?_
   refine Ae 7 C (Eff.fg2 (xs:=aa) (i:=(dd:Int)) (n:=(e_ aa dd) &&& ~~~(1#64 <<< (v).toNat)) J8 C C C om oo am) ?_
   rintro _ _ ⟨rfl,rfl⟩
   refine Df kr ?_
   refine Al<|A0 (S8 9 2 10 12 3 4 5 6)<|Ax<|Aj<|Gm C<|Gm C<|Gr (A2 (α:=(BitVec 64)) (xs:=ek nd es) Ds J8 C C A6 om oo)<|Gr (E5 (α:=(BitVec 64)) (xs:=ek nd es) (u:=U64 ((e_ (ek nd es) v))) J8 C A6 om oo C)<|Gm C<|Gr (C4 (a:=(e_ (ek nd es) v)) (b:=left &&& ~~~(1#64 <<< (v).toNat)) C C)<|Gc2 (Ac c_ C C<|au5 ((e_ (ek nd es) v) &&& (left &&& ~~~(1#64 <<< (v).toNat)))<|Cb hT Af) λaz ax=>?_
   refine Gr (Bj Ab C)<|Gm C<|Aq<|A0 (S10 92 91 90 9 2 10 3 4 5 6)<|A3<|B4 (σ:=Nat×(List Int)×(List<|BitVec 64)) (λs=>([(2,.slice au ((av8 done)++([v]:List Int)).length ar),(3,.slice ae (replicate ((ek nd es).length) (default:Int)).length ai),(4,.slice ad (ek nd es).length ab),(5,pt b4),(6,.slice ah (replicate ((ek nd es).length) (default:Int)).length aj),(9,U64<|left &&& ~~~(1#64 <<< (v).toNat)),(10,e7<|(((max kk dd):Nat):Int)),(90,.slice az (em<|(e_ (ek nd es) v) &&& (left &&& ~~~(1#64 <<< (v).toNat))).length ax),(91,e7<|(((em<|(e_ (ek nd es) v) &&& (left &&& ~~~(1#64 <<< (v).toNat))).length:Nat):Int)),(92,e7 ((s.1:Nat):Int))]:Env)) (λs=>vq 3 az ax (em<|(e_ (ek nd es) v) &&& (left &&& ~~~(1#64 <<< (v).toNat)))::vc 3 (.slice bk 1 1) (([v]:List Int))::vq 3 au ar ((av8 done)++([v]:List Int))::vc 3 (.slice ae (replicate ((ek nd es).length) (default:Int)).length ai) (List.set (de3 (ek nd es).length done) (v).toNat ((((max kk dd):Nat):Int)))::vc 3 (.slice ah (replicate ((ek nd es).length) (default:Int)).length aj) (s.2.1)::e8 b4 (cells (s.2.2:List (BitVec 64))) 264::vq 175 ad ab (ek nd es)::e8 b1 [e7 nd,va] 48::I) (λs=>(s.1<=(em<|e_ (ek nd es) v &&& (left &&& ~~~(1#64 <<< (v).toNat))).length)/\(az1 (ek nd es).length (λu=>u∈em (left &&& ~~~(1#64 <<< (v).toNat))) (dn3 (ek nd es) left (em<|e_ (ek nd es) v &&& (left &&& ~~~(1#64 <<< (v).toNat))) s.1) s.2.1 s.2.2)) (λs=>(em<|e_ (ek nd es) v &&& (left &&& ~~~(1#64 <<< (v).toNat))).length - s.1) (0,a0,List.set aa ((dd:Int)).toNat ((e_ aa dd) &&& ~~~(1#64 <<< (v).toNat))) ⟨om,((an.drop aq bq om<|λu=>M2 om).congr (λu=>Iff.rfl) (λu _=>dx1 _ _ _ u))⟩ (cx4<|cx4<|Aa C<|Aa Co A9) Ar ?_
   rintro ⟨j,M,E⟩ hp
   dsimp only at hp ⊢
   obtain ⟨hj,ak⟩:=hp
   have bw:=ak.ge5
   have br:=ak.ge7
   have bx:(em<|e_ (ek nd es) v &&& (left &&& ~~~(1#64 <<< (v).toNat))).length<=64:=Ee _
   have bm:j<(em<|e_ (ek nd es) v &&& (left &&& ~~~(1#64 <<< (v).toNat))).length->(e_ (em<|e_ (ek nd es) v &&& (left &&& ~~~(1#64 <<< (v).toNat))) (j:Int))∈em (left &&& ~~~(1#64 <<< (v).toNat))/\(e_ (em<|e_ (ek nd es) v &&& (left &&& ~~~(1#64 <<< (v).toNat))) (j:Int))∈em (e_ (ek nd es) v):=λh=>by have h1:=B3 (xs:=(em<|e_ (ek nd es) v &&& (left &&& ~~~(1#64 <<< (v).toNat)))) (i:=(j:Int)) om om;exact ⟨(J1.1 h1).2,(J1.1 h1).1⟩
   refine Aj<|Gr (Bp C C)<|Aq<|Ax<|Am C (λbj=>?_)<|λbj=>?_
   ·refine A4 (Al<|Ax<|A3<|Aj<|Gr (A2 (α:=Int) (xs:=em ((e_ (ek nd es) v) &&& (left &&& ~~~(1#64 <<< (v).toNat)))) Ab ef C C A6 om oo)<|Gr (B8 (xs:=em ((e_ (ek nd es) v) &&& (left &&& ~~~(1#64 <<< (v).toNat)))) ef C A6 om oo)<|Ga C ?_)
    have aw:=bm om
    have cb:=ak.rng (e_ (em<|e_ (ek nd es) v &&& (left &&& ~~~(1#64 <<< (v).toNat))) (j:Int)) aw.1
    have av:=ak.deg (e_ (em<|e_ (ek nd es) v &&& (left &&& ~~~(1#64 <<< (v).toNat))) (j:Int)) aw.1
    have a5:=av
    have a4:=fm7 (rows:=ek nd es) (left:=left) (ws:=(em<|e_ (ek nd es) v &&& (left &&& ~~~(1#64 <<< (v).toNat)))) (j:=j) om (Dv _)
    have bg:(e_ (em<|e_ (ek nd es) v &&& (left &&& ~~~(1#64 <<< (v).toNat))) (j:Int))∈em left:=((M2 om).1 aw.1).1
    have bu:=ap (e_ (em<|e_ (ek nd es) v &&& (left &&& ~~~(1#64 <<< (v).toNat))) (j:Int)) bg
    have b3:1<=R6 (ek nd es) left (e_ (em<|e_ (ek nd es) v &&& (left &&& ~~~(1#64 <<< (v).toNat))) (j:Int)):=Jz (J1.2 ⟨hS.sym v (e_ (em<|e_ (ek nd es) v &&& (left &&& ~~~(1#64 <<< (v).toNat))) (j:Int)) om om aw.2,aq⟩)
    rw [a4] at a5
    refine Aq<|A0 (S11 14 2 3 4 5 6 9 10 90 91 92)<|Ax<|A8 mixed<|C1 10<|Dr 0 C (Ad C)<|Dr 1 C (Ad C)<|Dr 2 C (A2 (α:=Int) (xs:=M) Ab ef C C A6 om oo)<|Dr 3 C (B8 (xs:=M) ef C A6 om oo)<|Dr 4 C (Cc C2 J8 C C om oo)<|Dr 5 C (Fs (xs:=E) J8 C (D7 mm) om oo)<|Dr 6 C (Ad C)<|Ds1 7<|Se C (Ac c_ C C<|ac4<|e_ (em<|(e_ (ek nd es) v) &&& (left &&& ~~~(1#64 <<< (v).toNat))) (j:Int)) ?_
    rintro _ _ ⟨_,_,⟨rfl,rfl⟩,rfl,rfl⟩
    refine ⟨Af,?_⟩
    refine Dr 8 C (Ew (a:=e_ E (e_ M<|e_ (em<|(e_ (ek nd es) v) &&& (left &&& ~~~(1#64 <<< (v).toNat))) (j:Int))) (b:=Q6 (e_ (em<|(e_ (ek nd es) v) &&& (left &&& ~~~(1#64 <<< (v).toNat))) (j:Int))) C C)<|Dr 9 C (Cc C2 J8 C C om oo)<|De kr ?_
    refine Ae 10 C (Eff.fg2 (xs:=E) (i:=e_ M (e_ (em<|(e_ (ek nd es) v) &&& (left &&& ~~~(1#64 <<< (v).toNat))) (j:Int))) (n:=(e_ E<|e_ M<|e_ (em<|(e_ (ek nd es) v) &&& (left &&& ~~~(1#64 <<< (v).toNat))) (j:Int)) &&& ~~~(Q6<|e_ (em<|(e_ (ek nd es) v) &&& (left &&& ~~~(1#64 <<< (v).toNat))) (j:Int))) J8 C C C om oo am) ?_
    rintro _ _ ⟨rfl,rfl⟩
    refine Df kr ?_
    refine Al<|A0 (S11 14 2 3 4 5 6 9 10 90 91 92)<|Aj<|Gm C<|Gm C<|Gr (A2 (α:=Int) (xs:=M) Ab ef C C A6 om oo)<|Gr (B8 (xs:=M) ef C A6 om oo)<|Gr (Rsu C C)<|Gr (A2 (α:=Int) (xs:=M) Ab ef C C A6 om oo)<|Ge0 (Cr (α:=Int) (xs:=M) (e:=3) (new:=(e_ M<|e_ (em<|(e_ (ek nd es) v) &&& (left &&& ~~~(1#64 <<< (v).toNat))) (j:Int)) - 1) ef C C C om oo am) ?_
    have a1:e_ (List.set M (e_ (em<|(e_ (ek nd es) v) &&& (left &&& ~~~(1#64 <<< (v).toNat))) (j:Int)).toNat ((e_ M<|e_ (em<|(e_ (ek nd es) v) &&& (left &&& ~~~(1#64 <<< (v).toNat))) (j:Int)) - 1)) (e_ (em<|e_ (ek nd es) v &&& (left &&& ~~~(1#64 <<< (v).toNat))) (j:Int))=e_ M (e_ (em<|e_ (ek nd es) v &&& (left &&& ~~~(1#64 <<< (v).toNat))) (j:Int)) - 1:=by rw [Dq _ _ _ _ om om om,By rfl]
    refine Aq<|A0 (S11 14 2 3 4 5 6 9 10 90 91 92)<|A8 mixed<|C1 10<|Dr 0 C (Ad C)<|Dr 1 C (Ad C)<|Dr 2 C (A2 (α:=Int) (xs:=List.set M (e_ (em<|(e_ (ek nd es) v) &&& (left &&& ~~~(1#64 <<< (v).toNat))) (j:Int)).toNat ((e_ M<|e_ (em<|(e_ (ek nd es) v) &&& (left &&& ~~~(1#64 <<< (v).toNat))) (j:Int)) - 1)) Ab ef C C A6 om oo)<|Dr 3 C (B8 (xs:=List.set M (e_ (em<|(e_ (ek nd es) v) &&& (left &&& ~~~(1#64 <<< (v).toNat))) (j:Int)).toNat ((e_ M<|e_ (em<|(e_ (ek nd es) v) &&& (left &&& ~~~(1#64 <<< (v).toNat))) (j:Int)) - 1)) ef C A6 om oo)<|Dr 4 C (Cc C2 J8 C C om oo)<|Dr 5 C (Fs (xs:=List.set E (e_ M<|e_ (em<|(e_ (ek nd es) v) &&& (left &&& ~~~(1#64 <<< (v).toNat))) (j:Int)).toNat ((e_ E<|e_ M<|e_ (em<|(e_ (ek nd es) v) &&& (left &&& ~~~(1#64 <<< (v).toNat))) (j:Int)) &&& ~~~(Q6<|e_ (em<|(e_ (ek nd es) v) &&& (left &&& ~~~(1#64 <<< (v).toNat))) (j:Int)))) J8 C (D7 mm) om oo)<|Dr 6 C (Ad C)<|Ds1 7<|Se C (Ac c_ C C<|ac4<|e_ (em<|(e_ (ek nd es) v) &&& (left &&& ~~~(1#64 <<< (v).toNat))) (j:Int)) ?_
    rintro _ _ ⟨_,_,⟨rfl,rfl⟩,rfl,rfl⟩
    refine ⟨Af,?_⟩
    refine Dr 8 C (Fh (a:=e_ (List.set E (e_ M<|e_ (em<|(e_ (ek nd es) v) &&& (left &&& ~~~(1#64 <<< (v).toNat))) (j:Int)).toNat ((e_ E<|e_ M<|e_ (em<|(e_ (ek nd es) v) &&& (left &&& ~~~(1#64 <<< (v).toNat))) (j:Int)) &&& ~~~(Q6<|e_ (em<|(e_ (ek nd es) v) &&& (left &&& ~~~(1#64 <<< (v).toNat))) (j:Int)))) (e_ (List.set M (e_ (em<|(e_ (ek nd es) v) &&& (left &&& ~~~(1#64 <<< (v).toNat))) (j:Int)).toNat ((e_ M<|e_ (em<|(e_ (ek nd es) v) &&& (left &&& ~~~(1#64 <<< (v).toNat))) (j:Int)) - 1))<|e_ (em<|(e_ (ek nd es) v) &&& (left &&& ~~~(1#64 <<< (v).toNat))) (j:Int))) (b:=Q6 (e_ (em<|(e_ (ek nd es) v) &&& (left &&& ~~~(1#64 <<< (v).toNat))) (j:Int))) C C)<|Dr 9 C (Cc C2 J8 C C om oo)<|De kr ?_
    refine Ae 10 C (Eff.fg2 (xs:=List.set E (e_ M<|e_ (em<|(e_ (ek nd es) v) &&& (left &&& ~~~(1#64 <<< (v).toNat))) (j:Int)).toNat ((e_ E<|e_ M<|e_ (em<|(e_ (ek nd es) v) &&& (left &&& ~~~(1#64 <<< (v).toNat))) (j:Int)) &&& ~~~(Q6<|e_ (em<|(e_ (ek nd es) v) &&& (left &&& ~~~(1#64 <<< (v).toNat))) (j:Int)))) (i:=e_ (List.set M (e_ (em<|(e_ (ek nd es) v) &&& (left &&& ~~~(1#64 <<< (v).toNat))) (j:Int)).toNat ((e_ M<|e_ (em<|(e_ (ek nd es) v) &&& (left &&& ~~~(1#64 <<< (v).toNat))) (j:Int)) - 1)) (e_ (em<|(e_ (ek nd es) v) &&& (left &&& ~~~(1#64 <<< (v).toNat))) (j:Int))) (n:=(e_ (List.set E (e_ M<|e_ (em<|(e_ (ek nd es) v) &&& (left &&& ~~~(1#64 <<< (v).toNat))) (j:Int)).toNat ((e_ E<|e_ M<|e_ (em<|(e_ (ek nd es) v) &&& (left &&& ~~~(1#64 <<< (v).toNat))) (j:Int)) &&& ~~~(Q6<|e_ (em<|(e_ (ek nd es) v) &&& (left &&& ~~~(1#64 <<< (v).toNat))) (j:Int))))<|e_ (List.set M (e_ (em<|(e_ (ek nd es) v) &&& (left &&& ~~~(1#64 <<< (v).toNat))) (j:Int)).toNat ((e_ M<|e_ (em<|(e_ (ek nd es) v) &&& (left &&& ~~~(1#64 <<< (v).toNat))) (j:Int)) - 1))<|e_ (em<|(e_ (ek nd es) v) &&& (left &&& ~~~(1#64 <<< (v).toNat))) (j:Int)) ||| (Q6<|e_ (em<|(e_ (ek nd es) v) &&& (left &&& ~~~(1#64 <<< (v).toNat))) (j:Int))) J8 C C C om oo am) ?_
    rintro _ _ ⟨rfl,rfl⟩
    refine Df kr ?_
    exact Ap<|Al<|A0 (S10 2 3 4 5 6 9 10 90 91 92)<|A1<|Gr (Rad C C)<|Gm C<|Bl<|Bh ((j+1),(List.set M (e_ (em<|(e_ (ek nd es) v) &&& (left &&& ~~~(1#64 <<< (v).toNat))) (j:Int)).toNat ((e_ M<|e_ (em<|(e_ (ek nd es) v) &&& (left &&& ~~~(1#64 <<< (v).toNat))) (j:Int)) - 1)),(List.set (List.set E (e_ M<|e_ (em<|(e_ (ek nd es) v) &&& (left &&& ~~~(1#64 <<< (v).toNat))) (j:Int)).toNat ((e_ E<|e_ M<|e_ (em<|(e_ (ek nd es) v) &&& (left &&& ~~~(1#64 <<< (v).toNat))) (j:Int)) &&& ~~~(Q6<|e_ (em<|(e_ (ek nd es) v) &&& (left &&& ~~~(1#64 <<< (v).toNat))) (j:Int)))) (e_ (List.set M (e_ (em<|(e_ (ek nd es) v) &&& (left &&& ~~~(1#64 <<< (v).toNat))) (j:Int)).toNat ((e_ M<|e_ (em<|(e_ (ek nd es) v) &&& (left &&& ~~~(1#64 <<< (v).toNat))) (j:Int)) - 1))<|e_ (em<|(e_ (ek nd es) v) &&& (left &&& ~~~(1#64 <<< (v).toNat))) (j:Int)).toNat ((e_ (List.set E (e_ M<|e_ (em<|(e_ (ek nd es) v) &&& (left &&& ~~~(1#64 <<< (v).toNat))) (j:Int)).toNat ((e_ E<|e_ M<|e_ (em<|(e_ (ek nd es) v) &&& (left &&& ~~~(1#64 <<< (v).toNat))) (j:Int)) &&& ~~~(Q6<|e_ (em<|(e_ (ek nd es) v) &&& (left &&& ~~~(1#64 <<< (v).toNat))) (j:Int))))<|e_ (List.set M (e_ (em<|(e_ (ek nd es) v) &&& (left &&& ~~~(1#64 <<< (v).toNat))) (j:Int)).toNat ((e_ M<|e_ (em<|(e_ (ek nd es) v) &&& (left &&& ~~~(1#64 <<< (v).toNat))) (j:Int)) - 1))<|e_ (em<|(e_ (ek nd es) v) &&& (left &&& ~~~(1#64 <<< (v).toNat))) (j:Int)) ||| (Q6<|e_ (em<|(e_ (ek nd es) v) &&& (left &&& ~~~(1#64 <<< (v).toNat))) (j:Int)))))<|by dsimp only;exact ⟨om,(by have hN:=ak.lower om (w:=(e_ (em<|e_ (ek nd es) v &&& (left &&& ~~~(1#64 <<< (v).toNat))) (j:Int))) (e:=e_ M (e_ (em<|e_ (ek nd es) v &&& (left &&& ~~~(1#64 <<< (v).toNat))) (j:Int))) aw.1 av.symm om om (dg':=dn3 (ek nd es) left (em<|e_ (ek nd es) v &&& (left &&& ~~~(1#64 <<< (v).toNat))) (j+1)) (λu _=>cf6 om (Dv _) u);rw [a1,br7 om om];exact hN)⟩
   exact B6<|Ao<|Ao<|A5<|Al<|B6<|Eu C<|Ao<|Ao<|Eu C<|A5<|Bh ((done++[(v,max kk dd)]),((left &&& ~~~(1#64 <<< (v).toNat))),(max kk dd),(M),(E),(au),(ar)) (by dsimp only;exact ⟨(dx3 hc a8 om),(ak.congr (λu=>Iff.rfl) (λu hu=>by have hr:=ak.rng u hu;exact (fm8 hS om om aq hr.1 hr.2 hu om).symm)),(by have:=aa9 aq;simp only [A_,Fu,F_];omega),om⟩) (hlt:=by (try dsimp only);exact (by have:=aa9 aq;omega)) (hL:=(Aa (Da C<|by first|rfl|(rw [ai8])|simp)<|cx4<|Aa (Da C<|by first|rfl|(rw [ai8])|simp)<|Aa C A9)) (hI:=by (try dsimp only);exact (by rw [ai8,dr4];exact Bi))
  exact (an.some (B_.1<|λh=>h asm) ap<|λc h1 h2=>hz c h1 om).elim
 refine B6<|Ao<|Ao<|A5<|Al<|Aj<|Gm C<|Gm C<|Ga C<|Ga C<|Aq<|Bq<|V.fj9 ?_
 have bn:left=0#64:=B_.1 a7
 have bo:done=bi0 nd es:=by rw [←hc,bn,bq8,Hq]
 subst bo
 have bc:=ak1 nd es
 exact B5 C C C (vq 3 ao co (ga0 nd es)::vq 3 ae ai (dx8 nd es)::I) (by unfold vq;rw [bc];simp only [Fw];exact Bi) ⟨ao,co,ae,ai,by rw [bc];simp only [Fw];rfl,rfl⟩
end Go.Sl
namespace Go.Sl
open Go.Proofs
set_option maxRecDepth 4000
variable{nd:Int}{va:Value}{es:List Pt}
variable {κ:Ctx}{I:List Item}
attribute [local irreducible] W G V D A j0 Eff
theorem bk7(hl:Sl κ I va es)(hT:P6 κ I 0 F3):er prog κ 104 [.agg #[e7 nd,va]] I (λr J=>∃a c,r = .tuple #[.slice a (G5 nd es).length c,e7 (p9 nd es)]/\J=vq 3 a c (G5 nd es)::I):=by
 refine Ce1 Tryz.func104 C C ?_
 refine Aj<|Ge1 (Ay (cs:=[_,_]) C C C) λb1=>Z ?_
 refine Gc0 (Ac c_ C C<|M1<|Bc hl)<|Z ?_
 refine Am C (λc10=>Z ?_)<|λc10=>Z ?_
 ·have E:(G5 nd es)=[]:=By c10
  exact B5 C C C (vq 3 none 0 (G5 nd es)::I) (by unfold vq;rw [E];exact Bz (show Fit κ _ I from Af)<|Bb (α:=Int) _ _) ⟨none,0,by rw [E];rfl,rfl⟩
 refine G.e (Ac c_ C C<|fs1 (nd:=nd) (Bc hl) (j6.1<|B_.1 c10)<|Cb hT Af) ?_
 rintro _ _ ⟨_,_,⟨ad,ab,M,aa,rfl,rfl⟩,rfl,rfl⟩
 refine Z ?_
 have E:(G5 nd es)=_:=An c10
 have hz:p9 nd es=0:=B_.1 c10
 exact B5 C C C (vq 3 M aa (G5 nd es)::I) (by unfold vq;rw [E];exact Ar) ⟨M,aa,by rw [E,hz]<;>rfl,rfl⟩
theorem bi1(nd:Int)(es:List Pt):(G5 nd es).length<=64:=by
 unfold G5
 split
 ·simp
 rw [ak1,ad1];omega
theorem fs2{lv:Int}(hl:Sl κ I va es)(hT:P6 κ I 0 F3):er prog κ 109 [.agg #[e7 nd,va],e7 lv] I (λr J=>∃a c,r = .tuple #[.slice a (N0 nd es lv).length c,e7 (p9 nd es)]/\J=vq 3 a c (N0 nd es lv)::I):=by
 have ah:=bi1 nd es
 refine Ce2 Tryz.func109 C C ?_
 refine Aj<|Ge1 (Ay (cs:=[_,_]) C C C) λb1=>Ga C<|Ga C<|Aq<|Aj<|Gl2 H2 ?_
 refine Gc2 (Ac c_ C C<|bk7 (nd:=nd) (Bc hl)<|Cb hT Af) λE M=>?_
 refine Gm C<|Gr (Av C C)<|Gr (Av C C)<|Ga C<|Ga C<|Aq<|Aj<|Ga C<|Aq<|Ax<|Aj<|Gm C<|Gr (Bj Ab C)<|Gm C<|Aq<|A0 (S6 18 17 16 8 7 1)<|A3<|B4 (σ:=Nat×(Option Addr)×Nat×(List Int)) (λs=>([(1,e7 lv),(7,e7<|p9 nd es),(8,.slice s.2.1 s.2.2.2.length s.2.2.1),(16,.slice E (G5 nd es).length M),(17,e7<|(((G5 nd es).length:Nat):Int)),(18,e7 ((s.1:Nat):Int))]:Env)) (λs=>vq 3 s.2.1 s.2.2.1 s.2.2.2::vq 3 E M (G5 nd es)::e8 b1 [e7 nd,va] 48::I) (λs=>(s.1<=(G5 nd es).length)/\(s.2.2.2=ap3 s.1 (λv=>decide<|lv<=e_ (G5 nd es) v))) (λs=>(G5 nd es).length - s.1) (0,none,0,[]) ⟨om,rfl⟩ (cx2<|Aa (Da C<|by first|rfl|simp)<|cx2<|Aa Co A9) (Bb _ _) ?_
 rintro ⟨k,a,c,out⟩ hp
 dsimp only at hp ⊢
 obtain ⟨hk,ho⟩:=hp
 have ai:out.length<=k:=by rw [ho];exact be8 _ _
 have ak:=bi1 nd es
 refine Aj<|Gr (Bp C C)<|Aq<|Ax<|Am C (λad=>?_)<|λad=>?_
 ·refine A4 (Al<|Ax<|A3<|Aj<|Gm C<|Gr (A2 (α:=Int) (xs:=G5 nd es) Ab ef C C A6 om om)<|Gr (B8 (xs:=G5 nd es) ef C A6 om om)<|Ga C<|Ga C<|Aq<|Aj<|Gm C<|Gm C<|Gr (Eo C C)<|Aq<|A0 (S8 25 9 1 7 8 16 17 18)<|Am C (λae=>?_)<|λae=>?_)
  ·refine A1 (Gm C<|Gm C<|Ge1 (Bt (α:=Int) (cs:=[_]) (xs:=[(k:Int)]) Ab ef C C dc dc C C C C) λaj=>?_)
   refine Ge2 (Bv (α:=Int) (e:=3) (xs:=out) (ys:=([(k:Int)]:List Int)) Ab ef C C C mm A6 lcn dc C<|λ_ _=>am) λab aa=>?_
   exact Ga C<|Bl<|Ap<|Al<|A1<|Gr (Rad C C)<|Gm C<|Bl<|Bh ((k+1),(ab),(aa),(out++([(k:Int)]:List Int)))<|by dsimp only;exact ⟨om,(by first|(rw [cb8 (D_ asm),←ho])|(rw [cu1 (E_ asm),←ho]))⟩
  exact A4<|Ap<|Al<|A1<|Gr (Rad C C)<|Gm C<|Bl<|Bh ((k+1),(a),(c),(out))<|by dsimp only;exact ⟨om,(by first|(rw [cb8 (D_ asm),←ho])|(rw [cu1 (E_ asm),←ho]))⟩
 refine B6<|Ao<|Ao<|A5<|Al<|Aj<|Gm C<|Gm C<|Ga C<|Ga C<|Aq<|Bq ?_
 have hE:out=(N0 nd es lv):=by rw [ho,show k=(G5 nd es).length by omega];rfl
 exact B5 C C C (vq 3 a c (N0 nd es lv)::I) (by unfold vq;rw [←hE];exact Ar) ⟨a,c,by rw [←hE],rfl⟩
end Go.Sl
namespace Go.Sl
open Go.Proofs
set_option maxRecDepth 4000
structure gd9 (n:Net) (f:List Int) (side:List Bool):Prop where
 cx9:ab2 n f
 len:(side.length:Int)=n.nodes
 bm7:∃T,dm0 n f T/\∀z:Int,0<=z->z<n.nodes->e_ side z=T z
theorem gd8{κ:Ctx}{I:List Item}{n:Net}{v:Value}(hl:Sl κ I v n.j9)(aa:n.Ok):er prog κ 282 [.agg #[e7 (n.nodes),e7 (n.source),e7 (n.sink),v]] I (λr J=>∃a c f a' c' side val,r = .tuple #[.slice a f.length c,e7 val,.slice a' side.length c']/\gd9 n f side/\J=vq 4 a' c' side::vq 3 a c f::I):=by
 have a0:=aa.lim
 have ay:=aa.snk
 have az:=aa.src
 refine Ce1 Tryz.func282 C C ?_
 refine Aj<|Ge1 (Ay (cs:=[_,_,_,_]) C C C) λb1=>Ga C<|Ga C<|Ga C<|Aq<|Aj<|Gl4 dc6 ?_
 refine G.e (Ac c_ C C<|fb0 (n:=n) (Bc hl) aa) ?_
 rintro _ _ ⟨_,_,⟨b,hw,ow,lw,nw,f,hs,rs,L,nx,val,rfl,⟨E,hh,hr⟩,rfl⟩,rfl,rfl⟩
 refine Fo (J:=e8 b [hw,ow,lw,nw,e7<|n.sink] 339::vc 336 hw (hs)::vc 3 lw (L)::vc 3 nw (nx)::vc 22 ow (rs)::e8 b1 [e7 (n.nodes),e7<|n.source,e7<|n.sink,v] 303::(af0 rs++I)) Bi ?_
 refine Gm C<|Gr (Av C C)<|Gr (Av C C)<|Ga C<|Ga C<|Aq<|Ax<|Aj<|Gf bw5 C ?_
 have au:=E.cx9.len
 have a6:=hh.len
 refine Gl fw0 ?_
 refine Gr (C3 (α:=Arc) (xs:=n.j9) El C<|Bc hl)<|Gm C<|Aq<|A0 (S7 17 16 15 3 5 2 1)<|A3<|B4 (σ:=Nat×(Option Addr)×Nat×(List Int)) (λs=>([(1,pt b1),(2,.slice s.2.1 s.2.2.2.length s.2.2.1),(3,e7 val),(5,pt b),(15,v),(16,e7 ((n.j9.length:Nat):Int)),(17,e7 ((s.1:Nat):Int))]:Env)) (λs=>vq 3 s.2.1 s.2.2.1 s.2.2.2::e8 b [hw,ow,lw,nw,e7<|n.sink] 339::vc 336 hw (hs)::vc 3 lw (L)::vc 3 nw (nx)::vc 22 ow (rs)::e8 b1 [e7 (n.nodes),e7<|n.source,e7<|n.sink,v] 303::(af0 rs++I)) (λs=>(s.1<=n.j9.length)/\(s.2.2.2=f.take s.1)) (λs=>n.j9.length - s.1) (0,none,0,[]) ⟨om,rfl⟩ (Aa C<|Aa (Da C<|by first|rfl|simp)<|cx4<|Aa Co A9) (Bb _ _) ?_
 rintro ⟨k,a,c,fl⟩ hp
 dsimp only at hp ⊢
 obtain ⟨hk,ah⟩:=hp
 have a1:fl.length=k:=by rw [ah,Fx];omega
 refine Aj<|Gr (Bp C C)<|Aq<|Ax<|Am C (λaq=>?_)<|λaq=>?_
 ·refine A4 (Al<|Ax<|A3<|Aj<|Gm C<|Gr (A2 (α:=Arc) (xs:=n.j9) El bt7 C C (Bc hl) om oo)<|Gr (Cd (α:=Arc) (xs:=n.j9) bt7 C (Bc hl) om oo)<|Ge1 (Ah bt7 C) λb2=>Ga C<|Ge0 (ck1 bt7) ?_)
  have a4:=hh.get (2*(k:Int)) ⟨by omega,by omega⟩
  have ax:=E.cx9.cap k om
  have a5:=br9 aa (k:=k) om
  have a7:H4 n f (2*(k:Int))=(e_ n.j9 k).cap - e_ f k:=by unfold H4;rw [By om,show (2*(k:Int)) / 2=(k:Int) from by omega]
  have ai:(e_ n.j9 k).cap - (e_ hs<|2*(k:Int)).left=e_ f k:=by omega
  refine Aq<|A8 mixed<|Cf (e8 b2 [e7 ((e_ n.j9 k).frm),e7<|(e_ n.j9 k).dst,e7<|(e_ n.j9 k).cap] 305::e8 b [hw,ow,lw,nw,e7<|n.sink] 339::vc 336 hw (hs)::vc 3 lw (L)::vc 3 nw (nx)::vc 22 ow (rs)::e8 b1 [e7 (n.nodes),e7<|n.source,e7<|n.sink,v] 303::(af0 rs++I)) 16<|Dr 0 C (Ad C)<|Dr 1 C (Ai cy0 C)<|Dr 2 C (Bd ef) ?_
  refine Dr 3 C (Ad C)<|Dr 4 C (Bw C)<|Dr 5 C (Ai X5 C)<|Dr 6 C (Bd bm2) ?_
  refine Dr 7 C (Ad C)<|Dr 8 C (Eg C C<|by unfold InR;omega)<|Dr 9 C (A2 (α:=V9) (xs:=hs) Ck ae6 C C A6 om oo)<|Dr 10 C (D4 (α:=V9) (xs:=hs) T3 C A6 oo)<|Dr 11 C (D9 (α:=V9) (xs:=hs) (u:=e7 ((e_ hs<|2*(k:Int)).left)) ef C A6 om oo C)<|Dr 12 C (Rsu C C)<|Ds1 13<|Se1 C (Bt (α:=Int) (cs:=[_]) (xs:=[((e_ n.j9 k).cap) - ((e_ hs<|2*(k:Int)).left)]) Ab ef C C dc dc C C C C) λa3=>?_
  refine Ds1 14<|Se2 C (Bv (α:=Int) (e:=3) (xs:=fl) (ys:=([((e_ n.j9 k).cap) - ((e_ hs<|2*(k:Int)).left)]:List Int)) Ab ef C C C mm A6 lcn dc C<|λ_ _=>am) λap aw=>?_
  exact Dr 15 C (Bo C)<|Dz<|Ap<|Al<|A0 (S7 2 1 3 5 15 16 17)<|A1<|Gr (Rad C C)<|Gm C<|Bl<|Bh ((k+1),(ap),(aw),(fl++([((e_ n.j9 k).cap) - ((e_ hs<|2*(k:Int)).left)]:List Int)))<|by dsimp only;exact ⟨om,(by rw [ah,Cn f k om];congr 1;rw [ai])⟩
 refine B6<|Ao<|Ao<|A5<|Al<|Aj<|Gm C ?_
 have ar:k=n.j9.length:=by omega
 have ao:fl=f:=by rw [ah,ar,←au,Hx]
 refine Gf cy1 C<|Gl ef ?_
 refine G.e (Ac c_ C C<|Cm (J:=e8 b [hw,ow,lw,nw,e7<|n.sink] 339::vq 3 a c fl::vc 336 hw (hs)::vc 3 lw (L)::vc 3 nw (nx)::vc 22 ow (rs)::e8 b1 [e7 (n.nodes),e7<|n.source,e7<|n.sink,v] 303::(af0 rs++I)) Bi<|dj8 (n:=n) (rs:=rs) (hs:=hs) aa hh A6 hr A6 (λi h0 h=>Bs (cu4 i h0 h) Af) om) ?_
 rintro _ _ ⟨_,_,⟨ad,ae,M,rfl,ab,rfl⟩,rfl,rfl⟩
 have aj:=ab.len
 refine Ga C<|Aq<|Ax<|Aj<|Gm C<|Gr (Bj Bk C)<|Gm C<|Aq<|A0 (S5 44 43 4 2 3)<|A3<|B4 (σ:=Nat×(List Bool)) (λs=>([(2,.slice a fl.length c),(3,e7 val),(4,.slice ad M.length ae),(43,e7 ((M.length:Nat):Int)),(44,e7 ((s.1:Nat):Int))]:Env)) (λs=>vc 4 (.slice ad M.length ae) (s.2)::e8 b [hw,ow,lw,nw,e7<|n.sink] 339::vq 3 a c fl::vc 336 hw (hs)::vc 3 lw (L)::vc 3 nw (nx)::vc 22 ow (rs)::e8 b1 [e7 (n.nodes),e7<|n.source,e7<|n.sink,v] 303::(af0 rs++I)) (λs=>(s.1<=M.length)/\(s.2.length=M.length)/\(∀i:Nat,i<M.length->e_ s.2 i=if i<s.1 then !e_ M i else e_ M i)) (λs=>M.length - s.1) (0,M) ⟨om,rfl,(λi h=>by rw [An om])⟩ (cx4<|Aa Co A9) Ar ?_
 rintro ⟨k,sd⟩ hp
 dsimp only at hp ⊢
 obtain ⟨hk,ak,an⟩:=hp
 refine Aj<|Gr (Bp C C)<|Aq<|Ax<|Am C (λav=>?_)<|λav=>?_
 ·refine A4 (Al<|Ax<|A3<|Aj<|Gm C<|Ga C<|Aq<|A1<|Gm C<|Gm C<|Gm C<|Gm C<|Gr (A2 (α:=Bool) (xs:=sd) Bk ty4 C C A6 om oo)<|Gr (Fl (xs:=sd) ty4 C A6 om oo)<|Gr (j0.not C)<|Gr (A2 (α:=Bool) (xs:=sd) Bk ty4 C C A6 om oo)<|Ge0 (Cr (α:=Bool) (xs:=sd) (e:=4) (new:= !e_ sd k) ty4 C C C om oo am) ?_)
  exact Bl<|Ap<|Al<|A0 (S5 2 3 4 43 44)<|A1<|Gr (Rad C C)<|Gm C<|Bl<|Bh ((k+1),(List.set sd ((k:Int)).toNat (!e_ sd k)))<|by dsimp only;exact ⟨om,(by rw [Gd];exact ak),(λi h=>by rw [Dq _ _ _ _ om om om];by_cases e:i=k;(· subst e;rw [By rfl,By om,an i h,An om]);(· rw [An om,an i h];by_cases h2:i<k;(· rw [By h2,By om]);(· rw [An h2,An om])))⟩
 refine B6<|Ao<|Ao<|A5<|Al<|Aj<|Gm C<|Gm C<|Gm C<|Ga C<|Ga C<|Ga C<|Aq<|Bq ?_
 subst ao
 exact V.gp9 C C C C (vq 4 ad ae sd::vq 3 a c fl::I) (by unfold vq;rw [ak];exact Bi) ⟨a,c,fl,ad,ae,sd,val,by rw [ak],⟨E.cx9,by omega,_,ab.bm7 aa E,λz h0 h1=>by obtain ⟨i,rfl⟩:∃i:Nat,z=(i:Int):=⟨z.toNat,om⟩;rw [an i om,By om]⟩,rfl⟩
end Go.Sl
namespace Go.Sl
open Go.Proofs
set_option maxRecDepth 4000
variable{x y:Operand}{i j nd p q u:Int}{E T b by' c k n sz:Nat}{ag:Bool}{z:List Value}{ad:Option Addr}{I':List Item}{W al:BitVec 64}{es:List Pt}{vb ve vk vw:Value}
def dd2(p:Pt)(j:Int)(n:Int):Pt:=if j=0 then {p with u:=n} else {p with v:=n}
section
variable {P:Program}{κ:Ctx}{N:Frm}{Q:Exit->Act->World->Prop}{L:Env}{I J:List Item}
variable {d:Option Tmp}{ty:TypeId}{ps:String}{af:Array Edge}{gd:Option (Nat×Bool)}
theorem j0.fu5{T:TypeId}{v:Int}(h0:∀w:World,(Instr.index T (.agg #[e7 u,e7 v]) (e7 0)).run P w = .ok (e7 u) w)(h1:∀w:World,(Instr.index T (.agg #[e7 u,e7 v]) (e7 1)).run P w = .ok (e7 v) w)
  (E:ep L x=some (.agg #[e7 u,e7 v])) (hy:ep L y=some (e7 j)) (hj:j=0\/j=1):j0 P κ N ⟨d,.index T x y,ty,ps,af,gd⟩ L J (e7 (if j=0 then u else v)):=λa w M hs=>by
 rcases hj with rfl|rfl
 ·simp [execOp,M.eval E,M.eval hy,h0]
 simp [execOp,M.eval E,M.eval hy,h1]
theorem j0.gs8(α:Type)[Enc α](ht:P.underlying T=some (.slice E))(hE:tyF P E=some (Enc.sz α,ag,by',z))(hx:ep L x=some (.slice ad n c))
  (hy:ep L y=some (e7 i)) (M:ad≠none) (h0:0<=i) (hn:i<n):j0 P κ N ⟨d,.indexAddr T x y,ty,ps,af,gd⟩ L J (s6 (.slice ad n c)<|i.toNat*Enc.sz α):=by
 cases ad with
 |none=>exact absurd rfl M
 |some ad=>exact λa w M hs=>by simp [execOp,M.eval hx,M.eval hy,Instr.indexAt,asIntOf,run_underlying ht,h0,hn,run_sizeOf hE,s6]
theorem j0.gj5{m n':Nat}(ht:P.underlying T=some (.array n E))(hE:tyF P E=some (sz,ag,by',z))(hx:ep L x=some (s6 (.slice ad n' c) m))
  (hy:ep L y=some (e7 i)) (M:ad≠none) (h0:0<=i) (hn:i<n):j0 P κ N ⟨d,.indexAddr T x y,ty,ps,af,gd⟩ L J (s6 (.slice ad n' c)<|m+i.toNat*sz):=by
 cases ad with
 |none=>exact absurd rfl M
 |some ad=>
  have e:(ad.add m).add (i.toNat*sz)=ad.add (m+i.toNat*sz):=by
   generalize i.toNat*sz=q
   unfold Addr.add
   by_cases h1:m=0<;>by_cases h2:q=0<;>simp [h1,h2,Mu]
  exact λa w M hs=>by simp [execOp,M.eval hx,M.eval hy,s6,Instr.indexAt,asIntOf,run_underlying ht,h0,hn,run_sizeOf hE,Instr.sureAddr,e]
theorem Eff.dd2{xs:List Pt}{e:Nat}{v:Value}{n:Int}(hT:tyF P T=some (1,false,by',z))(E:ep L x=some (s6 v (i.toNat*Enc.sz Pt+j.toNat*1)))(hy:ep L y=some (e7 n))(hj:j=0\/j=1)
  (h0:0<=i) (hn:i<xs.length) (M:At I (vc e v xs) (vc e v<|xs.set i.toNat<|dd2 (e_ xs i) j n) I'):Eff P κ N Q ⟨none,.store T x y,ty,ps,af,gd⟩ L I λL' I''=>L'=L/\I''=I':=by
 rcases hj with rfl|rfl
 ·exact Eff.gg4 (e:=e) (new:={e_ xs i with u:=n}) (j:=0) hT E hy C C dc C h0 hn M
 exact Eff.gg4 (e:=e) (new:={e_ xs i with v:=n}) (j:=1) hT E hy C C dc C h0 hn M
theorem Eff.gr5{n:Int}(hT:tyF P T=some (sz,ag,by',z))(aa:sz=1)(hx:ep L x=some (.pointer (some ⟨b,0+j.toNat*1,none⟩)))(hy:ep L y=some (e7 n))(hj:j=0\/j=1)
  (M:At I (e8 b [e7 p,e7 q] E) (e8 b [e7 (if j=0 then n else p),e7 (if j=0 then q else n)] E) I'):Eff P κ N Q ⟨none,.store T x y,ty,ps,af,gd⟩ L I λL' I''=>L'=L/\I''=I':=by
 rcases hj with rfl|rfl
 ·exact Eff.store (vs:=[e7 n]) hT hx hy C (by rw [aa];rfl) (λu hu=>by rw [Gj] at hu;subst hu;rfl) (by simp) C M
 exact Eff.store (vs:=[e7 n]) hT hx hy C (by rw [aa];rfl) (λu hu=>by rw [Gj] at hu;subst hu;rfl) (by simp) C M
end
theorem gx1(u v:Int)(w:World):(Instr.index 64 (.agg #[e7 u,e7 v]) (e7 0)).run prog w = .ok (e7 u) w:=by kernel_rfl
theorem gx0(u v:Int)(w:World):(Instr.index 64 (.agg #[e7 u,e7 v]) (e7 1)).run prog w = .ok (e7 v) w:=by kernel_rfl
structure bs7 (nd:Int) (es:List Pt) (ws bs cs:List Int):Prop where
 wl:ws.length=es.length
 w1:∀i:Nat,i<es.length->e_ ws i=1
 bl:bs.length=nd.toNat
 b0:∀i:Int,0<=i->i<nd->e_ bs i=0
 cl:cs.length=nd.toNat
 c1:∀i:Int,0<=i->i<nd->e_ cs i=1
theorem bi6(M:0<=u)(h1:u<64):W &&& Q6 u≠0#64↔W.getLsbD u.toNat=true:=by
 have hb:Q6 u=0#64 ||| 1#64 <<< u.toNat:=by rw [BitVec.zero_or];exact br7 M h1
 rw [hb]
 constructor
 ·intro h
  obtain ⟨x,E⟩:=V3.1 h
  rw [J1,aj0 M h1,C5] at E
  rcases E.2 with h2|h2
  ·cases h2
  rw [←h2];exact (s4.1 E.1).2
 intro h
 exact V3.2 ⟨u,J1.2 ⟨s4.2 ⟨M,h⟩,(aj0 M h1).2 (.inr rfl)⟩⟩
theorem dz2(E:0<=u)(h1:u<nd)(M:nd<=64):(Q6 u &&& K2 nd) &&& ~~~0#64≠0#64:=by
 rw [BitVec.not_zero,BitVec.and_allOnes,BitVec.and_comm]
 exact (bi6 E om).2 (by rw [K1 om M om,Gn];omega)
theorem F1(hk:k<es.length)(M:(0<=(e_ es k).u/\(e_ es k).u<64)/\0<=(e_ es k).v/\(e_ es k).v<64)(h1:W &&& Q6 (e_ es k).u≠0#64)(E:W &&& Q6 (e_ es k).v≠0#64):J7 W (es.take (k+1))=J7 W (es.take k)+1:=by
 rw [ce1 hk,(bi6 M.1.1 M.1.2).1 h1,(bi6 M.2.1 M.2.2).1 E];rfl
theorem q7(E:k<es.length)(M:(0<=(e_ es k).u/\(e_ es k).u<64)/\0<=(e_ es k).v/\(e_ es k).v<64)(h:¬W &&& Q6 (e_ es k).u≠0#64\/¬W &&& Q6 (e_ es k).v≠0#64):J7 W (es.take (k+1))=J7 W (es.take k):=by
 rw [ce1 E]
 rcases h with h|h
 ·rw [bi6 M.1.1 M.1.2,Ms] at h
  rw [h];simp
 rw [bi6 M.2.1 M.2.2,Ms] at h
 rw [h];simp
theorem ce6{α:Type}(f:Nat->List α)(k:Nat):(List.range (k+1)).flatMap f=(List.range k).flatMap f++f k:=by
 rw [Kj,Md];simp
section
attribute [local irreducible] W G V D A j0 Eff
theorem fd1{κ:Ctx}{I:List Item}{ws bs cs:List Int}(hl:Sl κ I ve es)(hw:Sl κ I vw ws)(hb:Sl κ I vb bs)(au:Sl κ I vk cs)(hG:G8 nd es)(hm:es.length<=2016)(hP:bs7 nd es ws bs cs)(wb:BitVec 64)(hW:ah5 nd wb)(hT:P6 κ I 0 F3):er prog κ 232 [.agg #[ve,vw,vb,vk,U64 al,U64 (0#64)],U64 wb] I (λr J=>r = .tuple #[e7 (J7 wb es),e7 (J5 wb)]/\I=J):=by
 have ar:=hG.rng
 have av:=hP.wl
 have az:=hP.bl
 have aw:=hP.cl
 refine Ce2 Tryz.func232 C C ?_
 refine Aj<|Ge1 (Ay (cs:=[_,_,_,_,_,_]) C C C) λb1=>Z ?_
 refine B4 (σ:=Nat) (λs=>([(1,U64 wb),(2,pt b1),(4,e7<|J7 wb<|es.take s),(5,e7 0),(11,ve),(12,e7 ((es.length:Nat):Int)),(13,e7 ((s:Nat):Int))]:Env)) (λs=>e8 b1 [ve,vw,vb,vk,U64 al,U64<|0#64] 211::I) (λs=>(s<=es.length)) (λs=>es.length - s) 0 (show ((0:Nat)<=es.length) from om) (cx2<|Aa (Do C<|by first|omega|(dsimp only<;>omega)|exact F1 E M ab aa|exact (F1 E M ab aa).symm|exact q7 E M (.inl ab)|exact q7 E M (.inr aa)|exact (q7 E M<|.inl ab).symm|exact (q7 E M<|.inr aa).symm|rfl)<|cx2<|Aa C<|Aa (Do C<|by first|omega|(dsimp only<;>omega)|exact F1 E M ab aa|exact (F1 E M ab aa).symm|exact q7 E M (.inl ab)|exact q7 E M (.inr aa)|exact (q7 E M<|.inl ab).symm|exact (q7 E M<|.inr aa).symm|rfl) A9) Ar ?_
 rintro k hp
 have hk:=hp
 have ao:=aj4 wb (es.take k)
 have ay:(es.take k).length<=k:=by rw [Fx];omega
 refine Z ?_
 refine Am C (λaq=>Z ?_)<|λaq=>Z ?_
 ·have E:k<es.length:=by omega
  have ax:=hG.ad7 (e_ es k) (B3 om om)
  have M:(0<=(e_ es k).u/\(e_ es k).u<64)/\0<=(e_ es k).v/\(e_ es k).v<64:=by omega
  refine Z ?_
  refine Ge1 (Ah H3 C) λb2=>Ga C<|Ge0 (Ba H3)<|Z ?_
  refine G.e (Ac c_ C C<|ac4<|(e_ es k).u) ?_
  rintro _ _ ⟨_,_,⟨rfl,rfl⟩,rfl,rfl⟩
  refine Gr (C4 (a:=wb) (b:=Q6 ((e_ es k).u)) C C)<|Gr (E3 (a:=wb &&& (Q6<|(e_ es k).u)) (b:=0#64) C C)<|Gm C<|Au (d:=24) C (λab=>Z ?_)<|λab=>Z ?_
  ·refine D0 (B9 C C C) (Ac c_ C C<|ac4<|(e_ es k).v) ?_
   rintro _ _ ⟨_,_,⟨rfl,rfl⟩,rfl,rfl⟩
   refine e9 (C4 (a:=wb) (b:=Q6 ((e_ es k).v)) C C)<|e9 (E3 (a:=wb &&& (Q6<|(e_ es k).v)) (b:=0#64) C C)<|Z ?_
   refine Am C (λaa=>Z ?_)<|λaa=>Z ?_
   ·rw [hP.w1 k E]
    refine Z ?_
    exact Bh ((k+1)) om (hL:=(cx2<|Aa (Do C<|by first|omega|(dsimp only<;>omega)|exact F1 E M ab aa|exact (F1 E M ab aa).symm|exact q7 E M (.inl ab)|exact q7 E M (.inr aa)|exact (q7 E M<|.inl ab).symm|exact (q7 E M<|.inr aa).symm|rfl)<|cx2<|Aa C<|Aa (Do C<|by first|omega|(dsimp only<;>omega)|exact F1 E M ab aa|exact (F1 E M ab aa).symm|exact q7 E M (.inl ab)|exact q7 E M (.inr aa)|exact (q7 E M<|.inl ab).symm|exact (q7 E M<|.inr aa).symm|rfl) A9))
   exact Bh ((k+1)) om (hL:=(cx2<|Aa (Do C<|by first|omega|(dsimp only<;>omega)|exact F1 E M ab aa|exact (F1 E M ab aa).symm|exact q7 E M (.inl ab)|exact q7 E M (.inr aa)|exact (q7 E M<|.inl ab).symm|exact (q7 E M<|.inr aa).symm|rfl)<|cx2<|Aa C<|Aa (Do C<|by first|omega|(dsimp only<;>omega)|exact F1 E M ab aa|exact (F1 E M ab aa).symm|exact q7 E M (.inl ab)|exact q7 E M (.inr aa)|exact (q7 E M<|.inl ab).symm|exact (q7 E M<|.inr aa).symm|rfl) A9))
  exact Bh ((k+1)) om (hL:=(cx2<|Aa (Do C<|by first|omega|(dsimp only<;>omega)|exact F1 E M ab aa|exact (F1 E M ab aa).symm|exact q7 E M (.inl ab)|exact q7 E M (.inr aa)|exact (q7 E M<|.inl ab).symm|exact (q7 E M<|.inr aa).symm|rfl)<|cx2<|Aa C<|Aa (Do C<|by first|omega|(dsimp only<;>omega)|exact F1 E M ab aa|exact (F1 E M ab aa).symm|exact q7 E M (.inl ab)|exact q7 E M (.inr aa)|exact (q7 E M<|.inl ab).symm|exact (q7 E M<|.inr aa).symm|rfl) A9))
 have ae:es.take k=es:=Gb om
 rw [ae]
 refine Gc2 (Ac c_ C C<|au5 wb<|Cb hT Af) λah aj=>Z ?_
 refine B4 (σ:=Nat) (λs=>([(2,pt b1),(4,e7<|J7 wb es),(5,e7 ((s:Nat):Int)),(41,.slice ah (em wb).length aj),(42,e7<|(((em wb).length:Nat):Int)),(43,e7 ((s:Nat):Int))]:Env)) (λs=>vq 3 ah aj (em wb)::e8 b1 [ve,vw,vb,vk,U64 al,U64<|0#64] 211::I) (λs=>(s<=(em wb).length)) (λs=>(em wb).length - s) 0 om (cx2<|Aa (Do C<|by first|omega|(dsimp only<;>omega)|exact F1 E M ab aa|exact (F1 E M ab aa).symm|exact q7 E M (.inl ab)|exact q7 E M (.inr aa)|exact (q7 E M<|.inl ab).symm|exact (q7 E M<|.inr aa).symm|rfl)<|cx2<|Aa (Do C<|by first|omega|(dsimp only<;>omega)|exact F1 E M ab aa|exact (F1 E M ab aa).symm|exact q7 E M (.inl ab)|exact q7 E M (.inr aa)|exact (q7 E M<|.inl ab).symm|exact (q7 E M<|.inr aa).symm|rfl) A9) Ar ?_
 rintro k hp
 have hk:=hp
 have ao:=aj4 wb es
 have a0:=Ee wb
 have ak:k<(em wb).length->0<=(e_ (em wb) k)/\(e_ (em wb) k)<nd:=λh=>by have ai:=B3 (xs:=em wb) (i:=(k:Int)) om om;have h1:=Fd ai;have h2:=hW _ ai;omega
 refine Z ?_
 refine Am C (λap=>Z ?_)<|λap=>Z ?_
 ·have ad:=ak om
  refine Z ?_
  rw [hP.b0 (e_ (em wb) k) ad.1 ad.2]
  refine Z ?_
  rw [hP.c1 (e_ (em wb) k) ad.1 ad.2]
  refine Z ?_
  exact Bh ((k+1)) om (hL:=(Aa C<|Aa (Do C<|by first|omega|(dsimp only<;>omega)|exact F1 E M ab aa|exact (F1 E M ab aa).symm|exact q7 E M (.inl ab)|exact q7 E M (.inr aa)|exact (q7 E M<|.inl ab).symm|exact (q7 E M<|.inr aa).symm|rfl)<|Aa (Do C<|by first|omega|(dsimp only<;>omega)|exact F1 E M ab aa|exact (F1 E M ab aa).symm|exact q7 E M (.inl ab)|exact q7 E M (.inr aa)|exact (q7 E M<|.inl ab).symm|exact (q7 E M<|.inr aa).symm|rfl)<|cx2<|Aa (Do C<|by first|omega|(dsimp only<;>omega)|exact F1 E M ab aa|exact (F1 E M ab aa).symm|exact q7 E M (.inl ab)|exact q7 E M (.inr aa)|exact (q7 E M<|.inl ab).symm|exact (q7 E M<|.inr aa).symm|rfl) A9))
 have an:(k:Int)=J5 wb:=by unfold J5;omega
 exact B5 C C C I Af ⟨by rw [an],rfl⟩
end
section
attribute [local irreducible] W G V D A j0 Eff
theorem dc2{κ:Ctx}{I:List Item}{nn:Int}{a:Option Addr}{j9:List Arc}(f t m:Int)(hlen:j9.length<=100000):er prog κ 281 [e7 f,e7 t,e7 m,(pt b)] (e8 b [e7 nn,e7 0,e7 1,.slice a j9.length c] 303::vq 305 a c j9::I) (λr J=>∃a2 c2,r=e7 ((j9.length:Nat):Int)/\J=e8 b [e7 nn,e7 0,e7 1,.slice a2 (j9++[(⟨f,t,m⟩:Arc)]).length c2] 303::vq 305 a2 c2 (j9++[(⟨f,t,m⟩:Arc)])::I):=by
 refine Ce4 Tryz.func281 C C<|Z ?_
 refine Ge1 (Bt (α:=Arc) (cs:=[_,_,_]) (xs:=[⟨f,t,m⟩]) El bt7 C C dc dc C C C C) λab=>?_
 refine Ge2 (Bv (α:=Arc) (e:=305) (xs:=j9) (ys:=([⟨f,t,m⟩]:List Arc)) El bt7 C C C mm A6 lcn dc C<|λ_ _=>am) λE M=>?_
 refine Gf bw5 C<|Ge0 (Eff.st (cs:=[_,_,_,_]) (vs:=[_]) (cs':=[_,_,_,_]) fw0)<|Z ?_
 refine Gr (j0.sub C C<|by unfold InR;simp only [A_,Fu,F_];omega)<|Z ?_
 have aa:(((j9++[(⟨f,t,m⟩:Arc)]).length:Nat):Int) - 1=((j9.length:Nat):Int):=by simp only [A_,Fu,F_];omega
 exact Ak C C (e8 b [e7 nn,e7 0,e7 1,.slice E (j9++[(⟨f,t,m⟩:Arc)]).length M] 303::vq 305 E M (j9++[(⟨f,t,m⟩:Arc)])::I) Bi ⟨E,M,by rw [aa],rfl⟩
end
section
attribute [local irreducible] W G V D A j0 Eff
theorem gc8{κ:Ctx}{I:List Item}{ve vw vb vk vf:Value}{al:BitVec 64}{fl:List Int}{p q i total:Int}(hf:Sl κ I vf fl)(hp:p<fl.length)(hq:q<fl.length)(hb:∀x∈fl,0<=x/\x<=4096)(ht:0<=total/\total<=4096):er prog κ 283 [.agg #[ve,vw,vb,vk,U64 al,U64 (0#64)],e7 i,.agg #[e7 p,e7 q],vf,e7 total] I (λr J=>∃x:Int,r=e7 x/\(0<=p->0<=q->x=total - e_ fl q)/\I=J):=by
 refine Ce5 Tryz.func283 C C ?_
 refine Aj (Ge1 (Ay (cs:=[_,_,_,_,_,_]) C C C) λb1=>Ge1 (Ay (cs:=[_,_]) C C C) λb2=>Ga C (Aq (Aj (Ge1 (Ah ar6 C) λb3=>Z ?_))))
 refine Dl (σ:=Nat×Int×Int) (λs=>[(16,e7 ((s.1:Nat):Int))]) (λs=>[e8 b3 [e7 (s.2.1),e7 (s.2.2)] 64]) (λs=>(s.1<=2)/\(0<=s.2.1/\s.2.1<=4096)/\(0<=s.2.2/\s.2.2<=4096)/\(0<=p->0<=q->2<=s.1->s.2.2=e_ fl q)) (λs=>2 - s.1) (0,0,0) (show ((0:Nat)<=2)/\(0<=(0:Int)/\(0:Int)<=4096)/\(0<=(0:Int)/\(0:Int)<=4096)/\(0<=p->0<=q->2<=(0:Nat)->(0:Int)=e_ fl q) from ⟨om,om,om,(λ_ _ h=>by omega)⟩) ?_
 rintro ⟨j,e0,e1⟩ hp
 dsimp only at hp ⊢
 obtain ⟨hj,he0,he1,he2⟩:=hp
 have hpq:(if (j:Int)=0 then p else q)<fl.length:=by split<;>assumption
 refine Z ?_
 refine Am C (λc17=>Z ?_) (λc17=>Z ?_)
 ·refine Gr (j0.fu5 (gx1 _ _) (gx0 _ _) C C om) (Z ?_)
  refine Am C (λc21=>Z ?_) (λc21=>Z ?_)
  ·have hvx:=hb _ (B3 (xs:=fl) (i:=(if (j:Int)=0 then p else q)) om om)
   have hxe:j=1->e_ fl (if (j:Int)=0 then p else q)=e_ fl q:=λh=>by rw [An om]
   generalize e_ fl (if (j:Int)=0 then p else q)=xv at hvx hxe ⊢
   refine Gr (Cc B0 ty2 C C om om) (Ge0 (Eff.gr5 (p:=e0) (q:=e1) (j:=(j:Int)) (n:=xv) ef C C C om am) (Z ?_))
   exact Bh ((j+1),(if (j:Int)=0 then xv else e0),(if (j:Int)=0 then e1 else xv)) (by dsimp only;exact ⟨om,(by first|exact he0|(split<;>first|exact he0|exact hvx)),(by first|exact he1|(split<;>first|exact he1|exact hvx)),(λh1 h2 h3=>by first|(rw [An om];exact hxe om)|(exfalso;rcases (show j=0\/j=1 by omega) with e|e<;>subst e<;>simp at c21<;>omega))⟩)
  exact Bh ((j+1),(e0),(e1)) (by dsimp only;exact ⟨om,(by first|exact he0|(split<;>first|exact he0|exact hvx)),(by first|exact he1|(split<;>first|exact he1|exact hvx)),(λh1 h2 h3=>by first|(rw [An om];exact hxe om)|(exfalso;rcases (show j=0\/j=1 by omega) with e|e<;>subst e<;>simp at c21<;>omega))⟩)
 refine Gr (Cc B0 ty2 C C om om) (Z ?_)
 refine Gr (Cc B0 ty2 C C om om) (Z ?_)
 refine Gr (Cc B0 ty2 C C om om) (Z ?_)
 refine Au (d:=39) C (λg39=>?_) (λg39=>Z ?_)
 ·refine e9 (Cc B0 ty2 C C om om) (Z ?_)
  refine Am C (λc43=>Z ?_) (λc43=>?_)
  ·refine Gr (Cc B0 ty2 C C om om) (Z ?_)
   exact Ak C C I Af ⟨_,rfl,λh1 h2=>by have h3:=he2 h1 h2 om;omega,rfl⟩
  refine A4 (Al (Aj (Gr (Cc B0 ty2 C C om om) (Z ?_))))
  exact Ak C C I Af ⟨_,rfl,λh1 h2=>by have h3:=he2 h1 h2 om;omega,rfl⟩
 refine Gr (Cc B0 ty2 C C om om) (Z ?_)
 exact Ak C C I Af ⟨_,rfl,λh1 h2=>by have h3:=he2 h1 h2 om;omega,rfl⟩
end
end Go.Sl
