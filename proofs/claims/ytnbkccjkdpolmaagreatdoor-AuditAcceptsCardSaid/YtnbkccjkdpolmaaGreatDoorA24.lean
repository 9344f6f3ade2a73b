/- A part of the proofs of statements of this seat: contracts of functions, and the plain laws that they lean on. No conditions. -/
import Derived.Test.YtnbkccjkdpolmaaGreatDoorA23
set_option linter.unusedVariables false
set_option linter.unusedSimpArgs false
set_option linter.unusedSectionVars false
open Go.Proofs.Tryz (prog)
set_option maxHeartbeats 2000000
namespace Go.Sl
open Go.Proofs
set_option maxRecDepth 4000
variable{es:List Pt}{E dd dn nd:Int}{M S parts:List Int}{b ec n pc:Nat}{ea pa:Option Addr}{v:Value}
variable {κ:Ctx}{I:List Item}
attribute [local irreducible] W G V D A Runs Eff
def FitsP(es:List Pt)(E:Int)(parts:List Int):Prop:=(1<=E/\E<=1048576)/\parts.length=es.length/\¬∃t∈parts,t<0\/E<t
instance (es:List Pt) (E:Int) (parts:List Int):Decidable (FitsP es E parts):=inferInstanceAs (Decidable (_/\_))
theorem FitsP.at(h:FitsP es E parts)(i:Nat)(hi:i<parts.length):0<=e_ parts i/\e_ parts i<=E:=by
 have:=λM=>h.2.2 ⟨_,Bx (i:=(i:Int)) om om,M⟩
 by_cases h3:e_ parts i<0\/E<e_ parts i
 ·exact absurd h3 this
 omega
theorem loadT_bdM{D:Int}(h:∀i:Nat,i<es.length->0<=e_ parts i/\e_ parts i<=D)(M:D<=1000)(v:Int):∀k:Nat,k<=es.length->0<=loadT es D parts k v/\loadT es D parts k v<=2000*(k:Int)
 |0,_=>by simp [loadT,sumN]
 |k+1,hk=>by
  have ih:=loadT_bdM h M v k om
  have hp:=h k om
  rw [loadT_succ]
  split<;>split<;>omega
def AccD(nd:Int)(es:List Pt)(S:List Int)(dn dd E:Int)(parts:List Int):Prop:=∃B,BestR nd es dn dd B/\SplitB nd es dn dd E parts/\S=eo B
theorem AccD.ok(hG:GrOk nd es)(h:AccD nd es S dn dd E parts):(densG nd es S=⟨dn,dd⟩/\ValidP S nd/\(0<nd->0<S.length))/\FitsP es E parts/\E=dd/\SplitP nd dn dd es parts/\(1<=dd/\dd<=64)/\0<=dn:=by
 obtain ⟨B,hB,hS,rfl⟩:=h
 obtain ⟨rfl,M⟩:=hS (checkG_ok.2 hG)
 obtain ⟨h1,h2,h3,h4,h5⟩:=best_dens hG hB
 refine ⟨⟨h1,h2,λh=>List.length_pos_iff.2<|h3 h⟩,⟨by omega,M.len,?_⟩,rfl,M,h4,h5.1⟩
 rintro ⟨t,ht,hb⟩
 obtain ⟨i,hi,rfl⟩:=E7 ht
 have:=M.rng i (by have:=M.len;omega)
 omega
theorem Fits1_ok(hb:BlkRd κ I b [e7 E,.slice pa n pc] 40)(x:Int):eu prog κ 361 [e7 x,.pointer (some ⟨b,0,none⟩)] I (λr J=>r = .bool (decide (x<0\/E<x))/\I=J):=by
 refine Ce2 Tryz.func361 C C<|Z ?_
 refine A6 (d:=6) C (λM=>Z ?_)<|λM=>Z ?_
 ·exact Ai C C I Ah ⟨congrArg Value.bool<|by first|exact (decide_eq_true<|.inl asm).symm|exact decide_eq_decide.2 ⟨λh=> .inr h,λh=>h.resolve_left asm⟩,rfl⟩
 refine e9 (Cs ef C (Co hb Ah) C)<|Z ?_
 exact Ai C C I Ah ⟨congrArg Value.bool<|by first|exact (decide_eq_true<|.inl asm).symm|exact decide_eq_decide.2 ⟨λh=> .inr h,λh=>h.resolve_left asm⟩,rfl⟩
theorem IndexFF_ok(hl:Sl κ I v M)(hb:BlkRd κ I b [e7 E,.slice pa n pc] 40):eu prog κ 364 [v,.func (.func 361) #[] #[.pointer (some ⟨b,0,none⟩)]] I (λr J=>∃y:Int,r=e7 y/\(0<=y↔∃t∈M,t<0\/E<t)/\I=J):=by
 refine Bu hl.le λab=>?_
 refine Ce2 Tryz.func364 C C<|Z ?_
 refine D7 (σ:=Nat) (λs=>[(8,e7 ((s:Nat):Int))]) (λ_=>[]) (λs=>(s<=M.length)/\(∀j,j<s->¬(e_ M j<0\/E<e_ M j))) (λs=>M.length - s) 0 ⟨om,all_zero⟩ ?_
 rintro k hp
 obtain ⟨hk,hn⟩:=hp
 refine Z ?_
 refine Ap C (λc9=>Z ?_)<|λc9=>Z ?_
 ·refine G.e (Cu c_ C C C<|Fits1_ok (Co hb Ah)<|e_ M k) ?_
  rintro _ _ ⟨_,_,⟨rfl,rfl⟩,rfl,rfl⟩
  refine As<|Ap C (λaa=>Z ?_)<|λaa=>Z ?_
  ·exact Ai C C I Ah ⟨_,rfl,⟨λ_=>⟨_,Bx om om,aa⟩,λ_=>by omega⟩,rfl⟩
  exact B5 ((k+1)) ⟨om,(all_succ hn aa)⟩
 exact Ai C C I Ah ⟨_,rfl,⟨λh=>absurd h dc,λ⟨t,ht,h2⟩=>by obtain ⟨q,hq,e⟩:=mem_atN ht;rw [e] at h2;exact absurd h2<|hn q om⟩,rfl⟩
theorem ContainsFF_ok(hl:Sl κ I v M)(hb:BlkRd κ I b [e7 E,.slice pa n pc] 40):eu prog κ 360 [v,.func (.func 361) #[] #[.pointer (some ⟨b,0,none⟩)]] I (λr J=>r = .bool (decide (∃t∈M,t<0\/E<t))/\I=J):=by
 refine Ce2 Tryz.func360 C C<|Z ?_
 refine G.e (Ac c_ C C<|IndexFF_ok (Au hl)<|Co hb Ah) ?_
 rintro _ _ ⟨_,_,⟨y1,rfl,aa,rfl⟩,rfl,rfl⟩
 refine Z ?_
 exact Ai C C I Ah ⟨by rw [decide_eq_decide.2 asm],rfl⟩
theorem Fits_ok(hl:Sl κ I (.slice ea es.length ec) es)(hs:Sl κ I (.slice pa parts.length pc) parts)  :
    eu prog κ 358 [.agg #[e7 nd,.slice ea es.length ec],.agg #[e7 E,.slice pa parts.length pc]] I (λr J=>r = .bool (decide<|FitsP es E parts)/\I=J):=by
 refine Ce2 Tryz.func358 C C ?_
 refine Ar<|Ge1 (Al (cs:=[_,_]) C C C) λb1=>Ge1 (Al (cs:=[_,_]) C C C) λb2=>Z ?_
 refine A6 (d:=8) C (λg8=>Z ?_)<|λg8=>Z ?_
 ·refine A6 (d:=13) C (λM=>Z ?_) (λM=>Z ?_)
  ·refine A6 (d:=22) C (λaa=>Z ?_) (λaa=>Z ?_)
   ·refine e9 (Ec C C) (Dn (B7 C C C) (Ac c_ C C<|ContainsFF_ok (Au hs)<|Cw mm) ?_)
    rintro _ _ ⟨_,_,⟨rfl,rfl⟩,rfl,rfl⟩
    refine Z ?_
    exact Ai C C I Ah ⟨congrArg Value.bool<|by unfold FitsP;first|exact (decide_eq_false<|λh=>absurd h.1.1 asm).symm|exact (decide_eq_false<|λh=>absurd h.1.2 asm).symm|exact (decide_eq_false (λh=>by have:=h.2.1;omega)).symm|exact decide_eq_decide.2 ⟨λh=>⟨⟨by assumption,by assumption⟩,by omega,h⟩,λh=>h.2.2⟩,rfl⟩
   exact Ai C C I Ah ⟨congrArg Value.bool<|by unfold FitsP;first|exact (decide_eq_false<|λh=>absurd h.1.1 asm).symm|exact (decide_eq_false<|λh=>absurd h.1.2 asm).symm|exact (decide_eq_false (λh=>by have:=h.2.1;omega)).symm|exact decide_eq_decide.2 ⟨λh=>⟨⟨by assumption,by assumption⟩,by omega,h⟩,λh=>h.2.2⟩,rfl⟩
  exact Ai C C I Ah ⟨congrArg Value.bool<|by unfold FitsP;first|exact (decide_eq_false<|λh=>absurd h.1.1 asm).symm|exact (decide_eq_false<|λh=>absurd h.1.2 asm).symm|exact (decide_eq_false (λh=>by have:=h.2.1;omega)).symm|exact decide_eq_decide.2 ⟨λh=>⟨⟨by assumption,by assumption⟩,by omega,h⟩,λh=>h.2.2⟩,rfl⟩
 exact Ai C C I Ah ⟨congrArg Value.bool<|by unfold FitsP;first|exact (decide_eq_false<|λh=>absurd h.1.1 asm).symm|exact (decide_eq_false<|λh=>absurd h.1.2 asm).symm|exact (decide_eq_false (λh=>by have:=h.2.1;omega)).symm|exact decide_eq_decide.2 ⟨λh=>⟨⟨by assumption,by assumption⟩,by omega,h⟩,λh=>h.2.2⟩,rfl⟩
theorem loads_ok(hl:Sl κ I (.slice ea es.length ec) es)(hs:Sl κ I (.slice pa parts.length pc) parts)(hG:GrOk nd es)(hF:FitsP es E parts)(hE:E<=1000):eu prog κ 365 [.agg #[e7 nd,.slice ea es.length ec],.agg #[e7 E,.slice pa parts.length pc]] I (λr J=>∃a c out,r = .slice a (out:List Int).length c/\((out.length:Int)=nd/\∀v:Int,0<=v->v<nd->e_ out v=loadS es E parts v)/\J=vc 3 (.slice a out.length c) out::I):=by
 have ap:=hG.rng
 have hm:=edges_le hG
 have ar:=hF.2.1
 refine Ce2 Tryz.func365 C C ?_
 refine Ar<|Ge1 (Al (cs:=[_,_]) C C C) λb1=>Ge1 (Al (cs:=[_,_]) C C C) λb2=>Z ?_
 refine Ge2 (Cj (α:=Int) (n:=nd.toNat) Aa ef C C C om om dc C) λab ad=>Z ?_
 refine D7 (σ:=Nat×(List Int)) (λs=>[(14,e7 ((s.1:Nat):Int))]) (λs=>[vc 3 (.slice ab (List.replicate nd.toNat (default:Int)).length ad) (s.2)]) (λs=>(s.1<=es.length)/\(s.2.length=nd.toNat)/\(∀v:Int,0<=v->v<(nd.toNat:Int)->e_ s.2 v=loadT es E parts s.1 v)) (λs=>es.length - s.1) (0,List.replicate nd.toNat (default:Int)) ⟨om,(by rw [List.length_replicate]),(λv h0 h1=>by rw [Fy _ _ _ h0 om];rfl)⟩ ?_
 rintro ⟨k,out⟩ hp
 dsimp only at hp ⊢
 obtain ⟨hk,ae,M⟩:=hp
 have ah:=λh:k<es.length=>hG.edge (e_ es ((k:Nat):Int)) (Bx om om)
 have ai:=λh:k<es.length=>hF.at k om
 refine Z ?_
 refine Ap C (λak=>Z ?_)<|λak=>Z ?_
 ·have ao:=ah om
  have an:=ai om
  have av:=M (e_ es k).u om om
  have aw:=M (e_ es k).v om om
  have aq:=loadT_bdM (es:=es) (parts:=parts) (λi hi=>hF.at i om) hE (e_ es k).u k om
  have au:=loadT_bdM (es:=es) (parts:=parts) (λi hi=>hF.at i om) hE (e_ es k).v k om
  refine Ge1 (Am ty95 C) λb5=>Ga C<|Ge0 (Cf ty95) ?_
  refine As<|A5<|A4 mixed<|Cr 12<|Z ?_
  refine C3 kr ?_
  refine Ae 12 C (Ci (α:=Int) (xs:=out) (e:=3) (new:=(e_ out<|(e_ es k).u)+(e_ parts k)) ef C C C om oo am) ?_
  rintro _ _ ⟨rfl,rfl⟩
  refine C4 kr<|Z ?_
  refine A4 mixed<|Cr 15<|Z ?_
  rw [C2 out _ _ _ om om om,if_neg (show ¬(e_ es k).u=(e_ es k).v by omega)]
  refine Z ?_
  refine C3 kr ?_
  refine Ae 15 C (Ci (α:=Int) (xs:=List.set out ((e_ es k).u).toNat ((e_ out<|(e_ es k).u)+(e_ parts k))) (e:=3) (new:=(e_ out (e_ es k).v)+(E - (e_ parts k))) ef C C C om oo am) ?_
  rintro _ _ ⟨rfl,rfl⟩
  refine C4 kr<|Z ?_
  exact B5 ((k+1),(List.set (List.set out ((e_ es k).u).toNat ((e_ out<|(e_ es k).u)+(e_ parts k))) ((e_ es k).v).toNat ((e_ out (e_ es k).v)+(E - (e_ parts k)))))<|by dsimp only;exact ⟨om,(by rw [List.length_set,List.length_set];exact ae),(sums_next ae om om M)⟩
 have aa:(List.replicate nd.toNat (default:Int)).length=out.length:=by rw [List.length_replicate,ae]
 have aj:k=es.length:=by omega
 subst aj
 exact Ai C C (vc 3 (.slice ab out.length ad) out::I) (by rw [←aa];exact Bb) ⟨ab,ad,out,by rw [←aa],⟨by omega,λv h0 h1=>M v h0 om⟩,rfl⟩
theorem Loads_ok(hl:Sl κ I (.slice ea es.length ec) es)(hs:Sl κ I (.slice pa parts.length pc) parts)(hG:GrOk nd es)(hF:FitsP es E parts)(hE:E<=1000):eu prog κ 362 [.agg #[e7 nd,.slice ea es.length ec],.agg #[e7 E,.slice pa parts.length pc]] I (λr J=>∃a c out,r = .tuple #[.slice a (out:List Int).length c,e7 0]/\((out.length:Int)=nd/\∀v:Int,0<=v->v<nd->e_ out v=loadS es E parts v)/\J=vc 3 (.slice a out.length c) out::I):=by
 refine Ce2 Tryz.func362 C C ?_
 refine Ar<|Ge1 (Al (cs:=[_,_]) C C C) λb1=>Ge1 (Al (cs:=[_,_]) C C C) λb2=>Z ?_
 refine Gc0 (Ac c_ C C<|CheckGen_ok<|Au hl)<|Z ?_
 refine Ap C (λc10=>?_)<|λc10=>Z ?_
 ·exact absurd (checkG_ok.2 hG) c10
 refine Gc0 (Ac c_ C C<|Fits_ok (nd:=nd) (E:=E) (Au hl)<|Au hs)<|Z ?_
 refine Ap C (λad=>?_)<|λad=>Z ?_
 ·exact absurd hF ad
 refine G.e (Ac c_ C C<|loads_ok (nd:=nd) (E:=E) (Au hl) (Au hs) hG hF hE) ?_
 rintro _ _ ⟨_,_,⟨M,aa,lo,rfl,⟨ab,ae⟩,rfl⟩,rfl,rfl⟩
 refine Z ?_
 exact Cy C C C (vc 3 (.slice M lo.length aa) lo::I) Bb ⟨M,aa,lo,rfl,⟨ab,ae⟩,rfl⟩
theorem MaxI_ok{xs:List Int}(hl:Sl κ I v xs)(h0:0<xs.length):eu prog κ 363 [v] I (λr J=>∃m:Int,r=e7 m/\(m∈xs/\∀x∈xs,x<=m)/\I=J):=by
 refine Bu hl.le λad=>?_
 refine Ce1 Tryz.func363 C C<|Z ?_
 refine Ap C (λc7=>?_)<|λc7=>Z ?_
 ·exfalso;omega
 refine D7 (σ:=Nat×Int) (λs=>[(3,e7<|s.2),(4,e7 ((s.1:Nat):Int))]) (λ_=>[]) (λs=>(1<=s.1/\s.1<=xs.length)/\(s.2∈xs/\∀j:Nat,j<s.1->e_ xs j<=s.2)) (λs=>xs.length - s.1) (1,e_ xs 0) ⟨om,⟨Bx om om,λj hj=>(by have e:j=0:=om;subst e;exact Int.le_refl _)⟩⟩ ?_
 rintro ⟨k,m⟩ hp
 dsimp only at hp ⊢
 obtain ⟨hk,M⟩:=hp
 refine Z ?_
 refine Ap C (λab=>Z ?_)<|λab=>Z ?_
 ·refine B5 ((k+1),(if m<(e_ xs k) then (e_ xs k) else m))<|by dsimp only;exact ⟨om,(by have aa:=Bx (xs:=xs) (i:=(k:Int)) om om;refine ⟨by split<;>first|exact aa|exact M.1,λj hj=>?_⟩;by_cases e:j=k;(· subst e;split<;>omega);(· have:=M.2 j om;split<;>omega))⟩
 exact Ai C C I Ah ⟨m,rfl,⟨M.1,λx hx=>by obtain ⟨j,hj,rfl⟩:=E7 hx;exact M.2 j om⟩,rfl⟩
theorem max_ok{m:Int}{lo:List Int}(M:FitsP es E parts)(hE:E<=1000)(hm:es.length<=2016)(h1:(lo.length:Int)=nd)(h2:∀v:Int,0<=v->v<nd->e_ lo v=loadS es E parts v)(h:m∈lo++[0]/\∀x∈lo++[0],x<=m):0<=m/\m<=4032000/\∀N,0<=N->SplitP nd N E es parts->m<=N:=by
 refine ⟨h.2 0<|by simp,?_,λN h0 hP=>?_⟩
 ·rcases List.mem_append.1 h.1 with h3|h3
  ·obtain ⟨i,hi,rfl⟩:=E7 h3
   rw [h2 _ om om]
   have:=loadT_bdM (es:=es) (D:=E) (parts:=parts) (λi hi=>M.at i<|by have:=M.2.1;omega) hE (i:Int) es.length (Nat.le_refl _)
   have h4:loadS es E parts (i:Int)=loadT es E parts es.length (i:Int):=rfl
   rw [h4];omega
  rw [List.mem_singleton.1 h3];omega
 rcases List.mem_append.1 h.1 with h3|h3
 ·obtain ⟨i,hi,rfl⟩:=E7 h3
  rw [h2 _ om om]
  exact hP.load _ om om
 rw [List.mem_singleton.1 h3];exact h0
theorem DBound_ok(hl:Sl κ I (.slice ea es.length ec) es)(hs:Sl κ I (.slice pa parts.length pc) parts)(hG:GrOk nd es)(hF:FitsP es E parts)(hE:E<=1000):eu prog κ 359 [.agg #[e7 nd,.slice ea es.length ec],.agg #[e7 E,.slice pa parts.length pc]] I (λr J=>∃m:Int,r = .tuple #[.agg #[e7 (mkF m E).num,e7 (mkF m E).den],e7 0]/\(0<=m/\m<=4032000/\∀N,0<=N->SplitP nd N E es parts->m<=N)/\I=J):=by
 have hm:=edges_le hG
 have ak:=hG.rng
 have ao:=hF.1
 refine Ce2 Tryz.func359 C C ?_
 refine Ar<|Ge1 (Al (cs:=[_,_]) C C C) λb1=>Ge1 (Al (cs:=[_,_]) C C C) λb2=>Ge1 (Am ty34 C) λb3=>Ga C<|As<|Ar<|Gl2 ty56 ?_
 refine Gl2 ty40 ?_
 refine G.e (Ac c_ C C<|Loads_ok (nd:=nd) (E:=E) (Au hl) (Au hs) hG hF hE) ?_
 rintro _ _ ⟨_,_,⟨aq,au,lo,rfl,⟨aa,ad⟩,rfl⟩,rfl,rfl⟩
 refine Gm C<|Gr (Bv C C)<|Gr (Bv C C)<|Ga C<|Ga C<|As<|Bg (S4 7 6 4 3 C C C C)<|A5<|Ar<|Gm C<|Gr (C9 C C)<|As<|Ap C (λab=>?_)<|λab=>?_
 ·exact absurd rfl ab
 refine Bt<|Ay<|A5<|A4 mixed<|Cm (e8 b2 [e7 E,.slice pa parts.length pc] 40::e8 b1 [e7 nd,.slice ea es.length ec] 56::I) 9<|Dr 0 C (Af C)<|Dr 4 C (Ad fld40_0 C)<|Dr 5 C (Ax ef) ?_
 refine Ds1 1<|Se1 C (B9 (α:=Int) (cs:=[_]) (xs:=[0]) Aa ef C C dc dc C C C C) λar=>?_
 refine Ds1 2<|Se2 C (B4 (e:=3) (ys:=([0]:List Int)) Aa ef C C C mm A7 lcn dc C<|λ_ _=>am) λap an=>?_
 refine Ds1 3<|Se C (Ac c_ C C<|MaxI_ok A7<|by simp) ?_
 rintro _ _ ⟨_,_,⟨M,rfl,aj,rfl⟩,rfl,rfl⟩
 refine ⟨Aj,?_⟩
 obtain ⟨ai,ae,ah⟩:=max_ok hF hE hm aa ad aj
 refine Ds1 6<|Sc0 C (Ac c_ C C<|MakeF_ok M E om om) ?_
 refine Dr 7 C (Bv C C)<|Dr 8 C (Bv C C)<|C3 kr ?_
 refine Ae 9 C (Cf ty34) ?_
 rintro _ _ ⟨rfl,rfl⟩
 refine Fg (i:=10) kr C (Ba C) C C (A0 C) ?_
 refine C4 kr ?_
 exact Ay<|Bg (S2 5 4 C C)<|Bf<|D5 C ty34 C C mm C I Ah ⟨M,rfl,⟨ai,ae,ah⟩,rfl⟩
theorem DCheck_ok{sa:Option Addr}{sc:Nat}(hl:Sl κ I (.slice ea es.length ec) es)(hS:Sl κ I (.slice sa S.length sc) S)(hs:Sl κ I (.slice pa parts.length pc) parts)(hG:GrOk nd es)(hE:E<=1000):eu prog κ 357 [.agg #[e7 nd,.slice ea es.length ec],.agg #[.slice sa S.length sc,e7 dn,e7 dd,e7 E,.slice pa parts.length pc]] I (λr J=>∃c,r=e7 c/\(AccD nd es S dn dd E parts->c=0)/\I=J):=by
 refine Ce2 Tryz.func357 C C ?_
 refine Ar<|Ge1 (Al (cs:=[_,_]) C C C) λb1=>Ge1 (Al (cs:=[_,_,_,_,_]) C C C) λb2=>Z ?_
 refine Gc0 (Ac c_ C C<|CheckGen_ok<|Au hl)<|Z ?_
 refine Ap C (λc13=>?_)<|λc13=>?_
 ·exact absurd (checkG_ok.2 hG) c13
 refine Bt<|Ay<|A5<|E8 (σ:=Bool) (λs=>([(2,.pointer<|some ⟨b1,0,none⟩),(3,.pointer<|some ⟨b2,0,none⟩),(38,.bool s)]:Env)) (λs=>e8 b2 [.slice sa S.length sc,e7 dn,e7 dd,e7 E,.slice pa parts.length pc] 118::e8 b1 [e7 nd,.slice ea es.length ec] 56::I) (λs=>(s=true->¬AccD nd es S dn dd E parts)/\(s=false->FitsP es E parts)) ?_ ?_
 ·refine Z ?_
  refine Gc0 (Ac c_ C C<|NValid_ok (Au hS) nd)<|Z ?_
  refine A6 (d:=21) C (λak=>Z ?_)<|λak=>Z ?_
  ·exact Cg ((true)) ⟨(λM hA=>by obtain ⟨⟨a1,a2,a3⟩,a4,_⟩:=hA.ok hG;first|omega|(simp_all;done)|(have:=a3 om;omega)),(λM=>by first|(exact absurd M dc)|(simpa using M))⟩
  refine A6 (d:=26) C (λao=>Z ?_)<|λao=>Z ?_
  ·refine A6 (d:=32) C (λap=>Z ?_) (λap=>Z ?_)
   ·exact Cg ((true)) ⟨(λM hA=>by obtain ⟨⟨a1,a2,a3⟩,a4,_⟩:=hA.ok hG;first|omega|(simp_all;done)|(have:=a3 om;omega)),(λM=>by first|(exact absurd M dc)|(simpa using M))⟩
   refine Dn (B7 C C C) (Ac c_ C C<|Fits_ok (nd:=nd) (E:=E) (Au hl)<|Au hs) ?_
   rintro _ _ ⟨_,_,⟨rfl,rfl⟩,rfl,rfl⟩
   refine Z ?_
   exact Cg ((decide<|¬(FitsP es E parts))) ⟨(λM hA=>by obtain ⟨⟨a1,a2,a3⟩,a4,_⟩:=hA.ok hG;first|omega|(simp_all;done)|(have:=a3 om;omega)),(λM=>by first|(exact absurd M dc)|(simpa using M))⟩
  refine Dn (B7 C C C) (Ac c_ C C<|Fits_ok (nd:=nd) (E:=E) (Au hl)<|Au hs) ?_
  rintro _ _ ⟨_,_,⟨rfl,rfl⟩,rfl,rfl⟩
  refine Z ?_
  exact Cg ((decide<|¬(FitsP es E parts))) ⟨(λM hA=>by obtain ⟨⟨a1,a2,a3⟩,a4,_⟩:=hA.ok hG;first|omega|(simp_all;done)|(have:=a3 om;omega)),(λM=>by first|(exact absurd M dc)|(simpa using M))⟩
 rintro bq hp
 obtain ⟨aq,aj⟩:(bq=true->¬AccD nd es S dn dd E parts)/\(bq=false->FitsP es E parts):=hp
 refine D8 C (λab=>Z ?_)<|λab=>Z ?_
 ·exact Ai C C I Ah ⟨4,rfl,(λhA=>absurd hA<|aq ab),rfl⟩
 refine Gc0 (Ac c_ C C<|DensityG_ok (nd:=nd) (Au hl) (Au hS)<|by have:=edges_le hG;omega)<|Z ?_
 refine Ge1 (Am ty34 C) λb3=>Ge0 (Cf ty34)<|Z ?_
 refine G.e (Ac c_ C C<|DBound_ok (nd:=nd) (E:=E) (Au hl) (Au hs) hG (aj ab) hE) ?_
 rintro _ _ ⟨_,_,⟨bm,rfl,⟨ae,ar,ad⟩,rfl⟩,rfl,rfl⟩
 refine Z ?_
 refine Ge1 (Am ty34 C) λb4=>Ge0 (Cf ty34)<|Z ?_
 have ah:=aj ab
 have ai:FrV (mkF bm E):=mkF_val om om (by have:=ah.1;omega) (by have:=ah.1;omega)
 refine Z ?_
 refine Gr (Dc (α:=Fr) (a:=(densG nd es S)) (b:=(⟨dn,dd⟩:Fr)) eqt34 C C)<|Gm C<|A6 (d:=57) C (λan=>Z ?_)<|λan=>Z ?_
 ·exact Ai C C I Ah ⟨12,rfl,(λhA=>by obtain ⟨⟨a1,a2,a3⟩,a4,a5,a6,a7,a8⟩:=hA.ok hG;first|(exact absurd (show (⟨(densG nd es S).num,(densG nd es S).den⟩:Fr)=⟨dn,dd⟩ from by rw [a1]) asm)|(rw [a1] at aa;subst a5;exact absurd aa<|bound_np ⟨ae,ad _ a8 a6⟩ a7.1)),rfl⟩
 refine Dn (B7 C C C) (Ac c_ C C<|RatCmp_ok (mkF bm E) (densG nd es S) (by first|exact densG_frv hG S|exact ai)<|by first|exact densG_frv hG S|exact ai) ?_
 rintro _ _ ⟨_,_,⟨rfl,rfl⟩,rfl,rfl⟩
 refine Z ?_
 refine Ap C (λaa=>Z ?_)<|λaa=>Z ?_
 ·exact Ai C C I Ah ⟨12,rfl,(λhA=>by obtain ⟨⟨a1,a2,a3⟩,a4,a5,a6,a7,a8⟩:=hA.ok hG;first|(exact absurd (by rw [a1]) asm)|(rw [a1] at aa;subst a5;exact absurd aa<|bound_np ⟨ae,ad _ a8 a6⟩ a7.1)),rfl⟩
 exact Ai C C I Ah ⟨0,rfl,(λ_=>rfl),rfl⟩
end Go.Sl
namespace Go.Sl
open Go.Proofs
set_option maxRecDepth 4000
section
variable {nd kd wd mo K node lv tq num den:Int}{S:List Int}{es:List Pt}{ev:List Ev}{A B:AnV}
theorem mkF_self{N D:Int}(h:FrV ⟨N,D⟩):mkF N D=⟨N,D⟩:=by
 have M:gcdI N D=1:=h.cop
 unfold mkF
 rw [M,Int.ediv_one,Int.ediv_one]
theorem BestR.uniq{N D N' D':Int}{B B':BitVec 64}(hG:GrOk nd es)(h:BestR nd es N D B)(h':BestR nd es N' D' B'):N=N'/\D=D'/\eo B=eo B':=by
 have hz:=checkG_ok.2 hG
 by_cases hn:nd=0
 ·obtain ⟨a1,a2,a3⟩:=h.none hz hn
  obtain ⟨b1,b2,b3⟩:=h'.none hz hn
  subst a1 a2 a3 b1 b2 b3
  exact ⟨rfl,rfl,rfl⟩
 have d:=h.some hz hn
 have M:=h'.some hz hn
 have e:=DensP.uniq d.den.1 M.den.1 d.dens M.dens
 have f:=h.frv hG
 have f':=h'.frv hG
 have n0:0<=N:=f.n0
 have ab:0<=N':=f'.n0
 have d0:1<=D:=f.d0
 have ad:1<=D':=f'.d0
 have aa:=mkF_eq n0 (show 0<D by omega) ab (show 0<D' by omega) e
 rw [mkF_self f,mkF_self f'] at aa
 obtain ⟨rfl,rfl⟩:N=N'/\D=D':=by injection aa with h1 h2;exact ⟨h1,h2⟩
 exact ⟨rfl,rfl,intLin.uniq (listB_asc _) (listB_asc _) λx=>⟨λhx=>M.dens.great B d.dens.sub d.dens.eq x hx,λhx=>d.dens.great B' M.dens.sub M.dens.eq x hx⟩⟩
def same6(A B:AnV):Prop:=A.fd=B.fd/\A.num=B.num/\A.S=B.S/\A.dn=B.dn/\A.dd=B.dd/\A.P=B.P
theorem is_eq{fd:Bool}{n:Int}{L:List Int}{x y:Int}{Z:List Pt}(a:A.is fd n L x y Z)(b:B.is fd n L x y Z):same6 A B:=by
 obtain ⟨a1,a2,a3,a4,a5,M⟩:=a
 obtain ⟨b1,b2,b3,b4,b5,b6⟩:=b
 exact ⟨a1.trans b1.symm,a2.trans b2.symm,a3.trans b3.symm,a4.trans b4.symm,a5.trans b5.symm,M.trans b6.symm⟩
theorem GrP.same(hG:GrOk nd es)(hK:1<=K/\K<=7)(a:GrP nd es K node lv S A)(b:GrP nd es K node lv S B):same6 A B:=by
 rcases (show K=1\/K=2\/K=3\/K=4\/K=5\/K=6\/K=7 by omega) with e|e|e|e|e|e|e
 ·exact is_eq (a.k1 e).1 (b.k1 e).1
 ·exact is_eq (a.k2 e).1 (b.k2 e).1
 ·obtain ⟨y,M,s1,x1,z1,p1,_⟩:=a.k3 e
  obtain ⟨y2,h2,s2,x2,z2,p2,_⟩:=b.k3 e
  obtain rfl:=M.find.uniq h2.find
  refine ⟨M.fd.trans h2.fd.symm,?_,s1.trans s2.symm,x1.trans x2.symm,z1.trans z2.symm,p1.trans p2.symm⟩
  by_cases hy:y<0
  ·rw [(M.none hy).1,(h2.none hy).1]
  rw [(M.some om).1,(h2.some om).1]
 ·exact is_eq (a.k4 e).1 (b.k4 e).1
 ·obtain ⟨⟨B1,M,_,s1⟩,f1,n1,p1,_⟩:=a.k5 e
  obtain ⟨⟨B2,h2,_,s2⟩,f2,n2,p2,_⟩:=b.k5 e
  obtain ⟨e1,e2,e3⟩:=M.uniq hG h2
  exact ⟨f1.trans f2.symm,n1.trans n2.symm,s1.trans<|e3.trans s2.symm,e1,e2,p1.trans p2.symm⟩
 ·obtain ⟨M,i1,_⟩:=a.k6 e
  obtain ⟨h2,i2,_⟩:=b.k6 e
  have:=M.uniq h2
  rw [←this] at i2
  exact is_eq i1 i2
 exact is_eq (a.k7 e).1 (b.k7 e).1
theorem same_alike(h:same6 A B)(M:A.tm=B.tm):alikeP A B:=⟨h.1,h.2.1,M,(cmpL_eq _ _).2 h.2.2.1,by rw [h.2.2.2.1,h.2.2.2.2.1],h.2.2.2.2.2⟩
theorem zero_alike(a:A.zero)(b:B.zero):alikeP A B:=same_alike (is_eq a.1 b.1) (a.2.2.trans b.2.2.symm)
theorem FirstP.uniq{p:Int->Prop}{t t2:Int}{k k2:Bool}(h:FirstP kd wd mo ev p t k)(h2:FirstP kd wd mo ev p t2 k2):t=t2/\k=k2:=by
 rcases h with ⟨rfl,⟨e,he,rfl⟩,hp,hl⟩|⟨rfl,rfl,hn⟩<;>rcases h2 with ⟨rfl,⟨e2,M,rfl⟩,aa,ab⟩|⟨rfl,rfl,ad⟩
 ·have a1:¬e2.tm<e.tm:=λq=>hl e2 M q aa
  have a2:¬e.tm<e2.tm:=λq=>ab e he q hp
  exact ⟨by omega,rfl⟩
 ·exact absurd hp<|ad e he
 ·exact absurd aa<|hn e2 M
 exact ⟨rfl,rfl⟩
theorem AnsP.alike(hH:HistOk nd kd wd mo ev)(hK:1<=K/\K<=10)(a:AnsP nd kd wd mo ev K node lv tq S num den A)(b:AnsP nd kd wd mo ev K node lv tq S num den B):alikeP A B:=by
 by_cases h7:K<=7
 ·exact same_alike ((a.g h7).1.same (hH.graph _) ⟨hK.1,h7⟩ (b.g h7).1)<|(a.g h7).2.trans (b.g h7).2.symm
 rcases (show K=8\/K=9\/K=10 by omega) with e|e|e
 ·obtain ⟨t,k,hf,hy,hn⟩:=a.k8 e
  obtain ⟨t2,k2,ab,M,aa⟩:=b.k8 e
  obtain ⟨rfl,rfl⟩:=hf.uniq ab
  cases k with
  |true=>exact same_alike ((hy rfl).1.same (hH.graph _) dc (M rfl).1) ((hy rfl).2.trans (M rfl).2.symm)
  |false=>exact zero_alike (hn rfl) (aa rfl)
 ·obtain ⟨t,k,hf,hy,hn⟩:=a.k9 e
  obtain ⟨t2,k2,ab,M,aa⟩:=b.k9 e
  obtain ⟨rfl,rfl⟩:=hf.uniq ab
  cases k with
  |true=>exact same_alike (is_eq (hy rfl).1 (M rfl).1) ((hy rfl).2.2.trans (M rfl).2.2.symm)
  |false=>exact zero_alike (hn rfl) (aa rfl)
 exact same_alike (is_eq (a.k10 e).1 (b.k10 e).1)<|(a.k10 e).2.2.trans (b.k10 e).2.2.symm
variable {k2 w2 m2:Int}{ev2:List Ev}
theorem askQ_ok(h:HistOk nd kd wd mo ev):askQ nd kd wd mo ev K node lv tq S num den=checkQ nd K node lv tq S num den:=if_neg (by simp [slideE_zeroH h])
theorem QV.tim(h:QV nd K node lv tq S num den)(M:K<=7):0<=tq/\tq<=1048576:=h.time (decide_eq_true ⟨h.rng.1,M⟩)
end
end Go.Sl
namespace Go.Sl
open Go.Proofs
set_option maxRecDepth 4000
variable{A:AnV}{wf:Bool}{M aa nd tm wn:Int}{ea na oa wa:Option Addr}{ec nc oc wc:Nat}{N O ws:List Int}{va vb:Value}{es:List Pt}
variable {κ:Ctx}{I:List Item}
attribute [local irreducible] W G V D A Runs Eff
structure HdA (κ:Ctx) (I:List Item) (A:AnV):Prop where
 s:Sl κ I (.slice A.sa A.S.length A.sc) A.S
 p:Sl κ I (.slice A.pa A.P.length A.pc) A.P
 o:Sl κ I (.slice A.oa A.O.length A.oc) A.O
 n:Sl κ I (.slice A.na A.N.length A.nc) A.N
 q:Sl κ I (.slice A.qa A.Q.length A.qc) A.Q
 b:A.N.length+A.O.length<=1000000
theorem HdA.fit{κ:Ctx}{I J:List Item}(h:HdA κ J A)(M:Fit κ I J):HdA κ I A:=⟨h.s.fit M,h.p.fit M,h.o.fit M,h.n.fit M,h.q.fit M,h.b⟩
def sameP(A B:AnV):Prop:=A.fd=B.fd/\A.num=B.num/\A.tm=B.tm/\(⟨A.dn,A.dd⟩:Fr)=⟨B.dn,B.dd⟩/\A.S=B.S/\A.P=B.P
instance (A B:AnV):Decidable (sameP A B):=inferInstanceAs (Decidable (_/\_))
def bare1(A:AnV):Prop:=A.E=0/\A.Q.length=0
def bare2(A:AnV):Prop:=A.N.length=0/\A.O.length=0
instance (A:AnV):Decidable (bare1 A):=inferInstanceAs (Decidable (_/\_))
instance (A:AnV):Decidable (bare2 A):=inferInstanceAs (Decidable (_/\_))
def GrX(nd:Int)(es:List Pt)(K node lv:Int)(S:List Int)(A:AnV):Prop:=(K=8->GrP nd es 5 0 0 [] A)/\(K=9->A.is true 0 (commG nd es (e_ S 0) lv) 0 0 []/\A.ev [] [] 0 [])/\(K<=7->GrP nd es K node lv S A)
def WantR(nd:Int)(es:List Pt)(K node lv:Int)(S:List Int)(wf:Bool)(wn:Int)(ws:List Int)(wdn wdd:Int):Prop:=∃W:AnV,GrX nd es K node lv S W/\W.is wf wn ws wdn wdd []
theorem same_is(h:sameP A ⟨wf,wn,tm,wa,wc,ws,M,aa,none,0,[],none,0,[],none,0,[],0,none,0,[]⟩):A.is wf wn ws M aa []/\A.tm=tm:=by
 obtain ⟨h1,h2,h3,h4,h5,h6⟩:=h
 injection h4 with h7 h8
 exact ⟨⟨h1,h2,h5,h7,h8,h6⟩,h3⟩
theorem is_same(h:A.is wf wn ws M aa [])(ht:A.tm=tm):sameP A ⟨wf,wn,tm,wa,wc,ws,M,aa,none,0,[],none,0,[],none,0,[],0,none,0,[]⟩:=by
 obtain ⟨h1,h2,h3,h4,h5,h6⟩:=h
 exact ⟨h1,h2,ht,by rw [h4,h5],h3,h6⟩
theorem EqI_ok{xs ys:List Int}(hl:Sl κ I va xs)(hm:Sl κ I vb ys):eu prog κ 78 [va,vb] I (λr J=>r = .bool (decide (xs=ys))/\I=J):=by
 refine Bu hl.le λae=>?_
 refine Bu hm.le λad=>?_
 refine Ce2 Tryz.func78 C C<|Z ?_
 refine Ap C (λc10=>Z ?_)<|λc10=>Z ?_
 ·have aa:xs≠ys:=λe=>by subst e;omega
  exact Ai C C I Ah ⟨by rw [decide_eq_false aa],rfl⟩
 refine D7 (σ:=Nat) (λs=>[(13,e7 ((s:Nat):Int))]) (λ_=>[]) (λs=>(s<=xs.length)/\(∀j:Nat,j<s->e_ xs j=e_ ys j)) (λs=>xs.length - s) 0 ⟨om,(λj h=>by omega)⟩ ?_
 rintro k hp
 obtain ⟨hk,hn⟩:=hp
 refine Z ?_
 refine Ap C (λab=>Z ?_)<|λab=>Z ?_
 ·refine A4 mixed (Cm I 9<|Z ?_)
  refine Ap C (λM=>Z ?_)<|λM=>Z ?_
  ·have aa:xs≠ys:=λe=>by subst e;exact M rfl
   exact Ai C C I Ah ⟨by rw [decide_eq_false aa],rfl⟩
  exact B5 ((k+1)) ⟨om,(λj h=>by by_cases e:j=k;(· subst e;exact Classical.not_not.1 M);(· exact hn j om))⟩
 have he:xs=ys:=List.ext_getElem om λi h1 h2=>by have:=hn i om;rwa [Cx xs i h1,Cx ys i h2] at this
 exact Ai C C I Ah ⟨by rw [decide_eq_true he],rfl⟩
theorem EqS_ok{xs ys:List Pt}(hl:Sl κ I va xs)(hm:Sl κ I vb ys):eu prog κ 79 [va,vb] I (λr J=>r = .bool (decide (xs=ys))/\I=J):=by
 refine Bu hl.le λae=>?_
 refine Bu hm.le λad=>?_
 refine Ce2 Tryz.func79 C C<|Z ?_
 refine Ap C (λc10=>Z ?_)<|λc10=>Z ?_
 ·have aa:xs≠ys:=λe=>by subst e;omega
  exact Ai C C I Ah ⟨by rw [decide_eq_false aa],rfl⟩
 refine D7 (σ:=Nat) (λs=>[(13,e7 ((s:Nat):Int))]) (λ_=>[]) (λs=>(s<=xs.length)/\(∀j:Nat,j<s->e_ xs j=e_ ys j)) (λs=>xs.length - s) 0 ⟨om,(λj h=>by omega)⟩ ?_
 rintro k hp
 obtain ⟨hk,hn⟩:=hp
 refine Z ?_
 refine Ap C (λab=>Z ?_)<|λab=>Z ?_
 ·refine A4 mixed (Cm I 9<|Z ?_)
  refine Dr 8 C (Dc (α:=Pt) (a:=(e_ xs k)) (b:=(e_ ys k)) eqt51 C C)<|Z ?_
  refine Ap C (λM=>Z ?_)<|λM=>Z ?_
  ·have aa:xs≠ys:=λe=>by subst e;exact M rfl
   exact Ai C C I Ah ⟨by rw [decide_eq_false aa],rfl⟩
  exact B5 ((k+1)) ⟨om,(λj h=>by by_cases e:j=k;(· subst e;exact Classical.not_not.1 M);(· exact hn j om))⟩
 have he:xs=ys:=List.ext_getElem om λi h1 h2=>by have:=hn i om;rwa [Cx xs i h1,Cx ys i h2] at this
 exact Ai C C I Ah ⟨by rw [decide_eq_true he],rfl⟩
theorem Same45_ok{B:AnV}(ak:Sl κ I (.slice A.sa A.S.length A.sc) A.S)(ab:Sl κ I (.slice A.pa A.P.length A.pc) A.P)(aa:Sl κ I (.slice B.sa B.S.length B.sc) B.S)(M:Sl κ I (.slice B.pa B.P.length B.pc) B.P):eu prog κ 33 [.agg #[.bool (A.fd),e7 (A.num),e7 (A.tm),.slice A.sa A.S.length A.sc,e7 (A.dn),e7 (A.dd),.slice A.pa A.P.length A.pc,.slice A.oa A.O.length A.oc,.slice A.na A.N.length A.nc,e7 (A.E),.slice A.qa A.Q.length A.qc],.agg #[.bool (B.fd),e7 (B.num),e7 (B.tm),.slice B.sa B.S.length B.sc,e7 (B.dn),e7 (B.dd),.slice B.pa B.P.length B.pc,.slice B.oa B.O.length B.oc,.slice B.na B.N.length B.nc,e7 (B.E),.slice B.qa B.Q.length B.qc]] I (λr J=>r = .bool (decide (sameP A B))/\I=J):=by
 refine Ce2 Tryz.func33 C C ?_
 refine Ar<|Ge1 (Al (cs:=[_,_,_,_,_,_,_,_,_,_,_]) C C C) λb1=>Ge1 (Al (cs:=[_,_,_,_,_,_,_,_,_,_,_]) C C C) λb2=>Z ?_
 refine Gr (Runs.eqlb E0 C C)<|Gm C<|A6 (d:=10) C (λad=>Z ?_)<|λad=>Z ?_
 ·refine A6 (d:=17) C (λae=>Z ?_) (λae=>Z ?_)
  ·refine A6 (d:=24) C (λah=>Z ?_) (λah=>Z ?_)
   ·refine e9 (Runs.eqlT (a:=(⟨A.dn,A.dd⟩:Fr)) (b:=(⟨B.dn,B.dd⟩:Fr)) eqt34 C C) (Z ?_)
    refine A6 (d:=31) C (λaj=>Z ?_)<|λaj=>Z ?_
    ·refine Dn (B7 C C C) (Ac c_ C C<|EqI_ok (ys:=B.S) (Au ak)<|Au aa) ?_
     rintro _ _ ⟨_,_,⟨rfl,rfl⟩,rfl,rfl⟩
     refine Z ?_
     refine A6 (d:=38) C (λai=>Z ?_)<|λai=>Z ?_
     ·refine Dn (B7 C C C) (Ac c_ C C<|EqS_ok (ys:=B.P) (Au ab)<|Au M) ?_
      rintro _ _ ⟨_,_,⟨rfl,rfl⟩,rfl,rfl⟩
      refine Z ?_
      exact Ai C C I Ah ⟨congrArg Value.bool<|by first|exact decide_eq_decide.2 ⟨λh=>⟨by assumption,by assumption,by assumption,by assumption,by assumption,h⟩,λh=>h.2.2.2.2.2⟩|exact (decide_eq_false<|λh=>absurd h.1 asm).symm|exact (decide_eq_false<|λh=>absurd h.2.1 asm).symm|exact (decide_eq_false<|λh=>absurd h.2.2.1 asm).symm|exact (decide_eq_false<|λh=>absurd h.2.2.2.1 asm).symm|exact (decide_eq_false<|λh=>absurd h.2.2.2.2.1 asm).symm,rfl⟩
     exact Ai C C I Ah ⟨congrArg Value.bool<|by first|exact decide_eq_decide.2 ⟨λh=>⟨by assumption,by assumption,by assumption,by assumption,by assumption,h⟩,λh=>h.2.2.2.2.2⟩|exact (decide_eq_false<|λh=>absurd h.1 asm).symm|exact (decide_eq_false<|λh=>absurd h.2.1 asm).symm|exact (decide_eq_false<|λh=>absurd h.2.2.1 asm).symm|exact (decide_eq_false<|λh=>absurd h.2.2.2.1 asm).symm|exact (decide_eq_false<|λh=>absurd h.2.2.2.2.1 asm).symm,rfl⟩
    exact Ai C C I Ah ⟨congrArg Value.bool<|by first|exact decide_eq_decide.2 ⟨λh=>⟨by assumption,by assumption,by assumption,by assumption,by assumption,h⟩,λh=>h.2.2.2.2.2⟩|exact (decide_eq_false<|λh=>absurd h.1 asm).symm|exact (decide_eq_false<|λh=>absurd h.2.1 asm).symm|exact (decide_eq_false<|λh=>absurd h.2.2.1 asm).symm|exact (decide_eq_false<|λh=>absurd h.2.2.2.1 asm).symm|exact (decide_eq_false<|λh=>absurd h.2.2.2.2.1 asm).symm,rfl⟩
   exact Ai C C I Ah ⟨congrArg Value.bool<|by first|exact decide_eq_decide.2 ⟨λh=>⟨by assumption,by assumption,by assumption,by assumption,by assumption,h⟩,λh=>h.2.2.2.2.2⟩|exact (decide_eq_false<|λh=>absurd h.1 asm).symm|exact (decide_eq_false<|λh=>absurd h.2.1 asm).symm|exact (decide_eq_false<|λh=>absurd h.2.2.1 asm).symm|exact (decide_eq_false<|λh=>absurd h.2.2.2.1 asm).symm|exact (decide_eq_false<|λh=>absurd h.2.2.2.2.1 asm).symm,rfl⟩
  exact Ai C C I Ah ⟨congrArg Value.bool<|by first|exact decide_eq_decide.2 ⟨λh=>⟨by assumption,by assumption,by assumption,by assumption,by assumption,h⟩,λh=>h.2.2.2.2.2⟩|exact (decide_eq_false<|λh=>absurd h.1 asm).symm|exact (decide_eq_false<|λh=>absurd h.2.1 asm).symm|exact (decide_eq_false<|λh=>absurd h.2.2.1 asm).symm|exact (decide_eq_false<|λh=>absurd h.2.2.2.1 asm).symm|exact (decide_eq_false<|λh=>absurd h.2.2.2.2.1 asm).symm,rfl⟩
 exact Ai C C I Ah ⟨congrArg Value.bool<|by first|exact decide_eq_decide.2 ⟨λh=>⟨by assumption,by assumption,by assumption,by assumption,by assumption,h⟩,λh=>h.2.2.2.2.2⟩|exact (decide_eq_false<|λh=>absurd h.1 asm).symm|exact (decide_eq_false<|λh=>absurd h.2.1 asm).symm|exact (decide_eq_false<|λh=>absurd h.2.2.1 asm).symm|exact (decide_eq_false<|λh=>absurd h.2.2.2.1 asm).symm|exact (decide_eq_false<|λh=>absurd h.2.2.2.2.1 asm).symm,rfl⟩
theorem Bareft_ok(hA:HdA κ I A):eu prog κ 34 [.agg #[.bool (A.fd),e7 (A.num),e7 (A.tm),.slice A.sa A.S.length A.sc,e7 (A.dn),e7 (A.dd),.slice A.pa A.P.length A.pc,.slice A.oa A.O.length A.oc,.slice A.na A.N.length A.nc,e7 (A.E),.slice A.qa A.Q.length A.qc],.bool false,.bool true] I (λr J=>r = .bool (decide (bare1 A))/\I=J):=by
 refine Ce3 Tryz.func34 C C ?_
 refine Ar<|Ge1 (Al (cs:=[_,_,_,_,_,_,_,_,_,_,_]) C C C) λb1=>Z ?_
 refine A6 (d:=25) C (λM=>Z ?_)<|λM=>Z ?_
 ·exact Ai C C I Ah ⟨congrArg Value.bool<|bF<|by unfold bare1;omega,rfl⟩
 exact Ai C C I Ah ⟨congrArg Value.bool<|bD<|by unfold bare1;omega,rfl⟩
theorem Barett_ok(hA:HdA κ I A):eu prog κ 34 [.agg #[.bool (A.fd),e7 (A.num),e7 (A.tm),.slice A.sa A.S.length A.sc,e7 (A.dn),e7 (A.dd),.slice A.pa A.P.length A.pc,.slice A.oa A.O.length A.oc,.slice A.na A.N.length A.nc,e7 (A.E),.slice A.qa A.Q.length A.qc],.bool true,.bool true] I (λr J=>r = .bool (decide (bare2 A/\bare1 A))/\I=J):=by
 have ab:=hA.b
 refine Ce3 Tryz.func34 C C ?_
 refine Ar<|Ge1 (Al (cs:=[_,_,_,_,_,_,_,_,_,_,_]) C C C) λb1=>Z ?_
 refine A6 (d:=18) C (λaa=>Z ?_)<|λaa=>Z ?_
 ·exact Ai C C I Ah ⟨congrArg Value.bool<|bF<|by unfold bare2 bare1;omega,rfl⟩
 refine A6 (d:=25) C (λM=>Z ?_)<|λM=>Z ?_
 ·exact Ai C C I Ah ⟨congrArg Value.bool<|bF<|by unfold bare2 bare1;omega,rfl⟩
 exact Ai C C I Ah ⟨congrArg Value.bool<|bD<|by unfold bare2 bare1;omega,rfl⟩
theorem Baretf_ok(hA:HdA κ I A):eu prog κ 34 [.agg #[.bool (A.fd),e7 (A.num),e7 (A.tm),.slice A.sa A.S.length A.sc,e7 (A.dn),e7 (A.dd),.slice A.pa A.P.length A.pc,.slice A.oa A.O.length A.oc,.slice A.na A.N.length A.nc,e7 (A.E),.slice A.qa A.Q.length A.qc],.bool true,.bool false] I (λr J=>r = .bool (decide (bare2 A))/\I=J):=by
 have aa:=hA.b
 refine Ce3 Tryz.func34 C C ?_
 refine Ar<|Ge1 (Al (cs:=[_,_,_,_,_,_,_,_,_,_,_]) C C C) λb1=>Z ?_
 refine A6 (d:=18) C (λM=>Z ?_)<|λM=>Z ?_
 ·exact Ai C C I Ah ⟨congrArg Value.bool<|bF<|by unfold bare2;omega,rfl⟩
 exact Ai C C I Ah ⟨congrArg Value.bool<|bT<|by unfold bare2;omega,rfl⟩
theorem Verdict_ok{t:Bool} :
    eu prog κ 32 [.bool t] I (λr J=>r=e7 (if t=true then 0 else 12)/\I=J):=by
 refine Ce1 Tryz.func32 C C<|Z ?_
 refine D8 C (λM=>Z ?_)<|λM=>Z ?_
 ·exact Ai C C I Ah ⟨by rw [if_pos M],rfl⟩
 exact Ai C C I Ah ⟨by rw [if_neg (by simp [M])],rfl⟩
theorem Prove_nodes(hl:Sl κ I (.slice ea es.length ec) es)(hN:Sl κ I (.slice na N.length nc) N)(hO:Sl κ I (.slice oa O.length oc) O)(hG:GrOk nd es)(hT:TabRd κ I 0 tzCells):eu prog κ 347 [.agg #[.slice na N.length nc,.slice oa O.length oc],.agg #[e7 nd,.slice ea es.length ec]] I (λr J=>∃t:Bool,r = .bool t/\(CoreE nd es N O->t=true)/\I=J):=by
 refine Ce2 Tryz.func347 C C ?_
 refine Ar<|Ge1 (Al (cs:=[_,_]) C C C) λb1=>Ge1 (Al (cs:=[_,_]) C C C) λb2=>Z ?_
 refine G.e (Ac c_ C C<|CCheck_ok (nd:=nd) (Au hl) (Au hN) (Au hO) hG<|A8 hT Ah) ?_
 rintro _ _ ⟨_,_,⟨M,rfl,aa,rfl⟩,rfl,rfl⟩
 refine Z ?_
 exact Ai C C I Ah ⟨decide<|M=0,rfl,(λhE=>decide_eq_true<|aa hE),rfl⟩
theorem Prove_edges(hl:Sl κ I (.slice ea es.length ec) es)(hN:Sl κ I (.slice na N.length nc) N)(hO:Sl κ I (.slice oa O.length oc) O)(hG:GrOk nd es)(hT:TabRd κ I 0 tzCells):eu prog κ 352 [.agg #[.slice na N.length nc,.slice oa O.length oc],.agg #[e7 nd,.slice ea es.length ec]] I (λr J=>∃t:Bool,r = .bool t/\(TrussE (trisE nd es) N O->t=true)/\I=J):=by
 refine Ce2 Tryz.func352 C C ?_
 refine Ar<|Ge1 (Al (cs:=[_,_]) C C C) λb1=>Ge1 (Al (cs:=[_,_]) C C C) λb2=>Z ?_
 refine G.e (Ac c_ C C<|TCheck_ok (nd:=nd) (Au hl) (Au hN) (Au hO) hG<|A8 hT Ah) ?_
 rintro _ _ ⟨_,_,⟨M,rfl,aa,rfl⟩,rfl,rfl⟩
 refine Z ?_
 exact Ai C C I Ah ⟨decide<|M=0,rfl,(λhE=>decide_eq_true<|aa hE),rfl⟩
theorem Prove_split{dn dd E:Int}{sa pa:Option Addr}{sc pc:Nat}{S parts:List Int}(hl:Sl κ I (.slice ea es.length ec) es)(hS:Sl κ I (.slice sa S.length sc) S)(hs:Sl κ I (.slice pa parts.length pc) parts)(hG:GrOk nd es)(M:E<=1000):eu prog κ 356 [.agg #[.slice sa S.length sc,e7 dn,e7 dd,e7 E,.slice pa parts.length pc],.agg #[e7 nd,.slice ea es.length ec]] I (λr J=>∃t:Bool,r = .bool t/\(AccD nd es S dn dd E parts->t=true)/\I=J):=by
 refine Ce2 Tryz.func356 C C ?_
 refine Ar<|Ge1 (Al (cs:=[_,_,_,_,_]) C C C) λb1=>Ge1 (Al (cs:=[_,_]) C C C) λb2=>Z ?_
 refine G.e (Ac c_ C C<|DCheck_ok (nd:=nd) (dn:=dn) (dd:=dd) (E:=E) (Au hl) (Au hS) (Au hs) hG M) ?_
 rintro _ _ ⟨_,_,⟨aa,rfl,ab,rfl⟩,rfl,rfl⟩
 refine Z ?_
 exact Ai C C I Ah ⟨decide<|aa=0,rfl,(λM=>decide_eq_true<|ab M),rfl⟩
theorem Prove_nothing :
    eu prog κ 366 [.agg #[],.agg #[e7 nd,va]] I (λr J=>∃t:Bool,r = .bool t/\(True->t=true)/\I=J):=by
 refine Ce2 Tryz.func366 C C ?_
 refine Ar<|Ge1 (Al (cs:=[]) C C C) λb1=>Ge1 (Al (cs:=[_,_]) C C C) λM=>Z ?_
 exact Ai C C I Ah ⟨true,rfl,(λ_=>rfl),rfl⟩
end Go.Sl
