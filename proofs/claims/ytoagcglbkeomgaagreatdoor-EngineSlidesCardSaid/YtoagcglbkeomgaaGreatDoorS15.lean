/- A part of the proofs of statements of this seat: contracts of functions, and the plain laws that they lean on. No conditions. -/
import Derived.Test.YtoagcglbkeomgaaGreatDoorS14
import Derived.Test.YtoagcglbkeomgaaGreatDoorS13
import Derived.OrdersIn
set_option linter.unusedVariables false
set_option linter.unusedSimpArgs false
set_option linter.unusedSectionVars false
namespace Go.Sl
open Go.Proofs
set_option maxRecDepth 4000
variable{T z:Int}{ys:List Lk}{zs:List Ev}{k:Nat}
theorem agedL_step{kd wd mo:Int}(M:kd=2)(h:0<ys.length/\minT ys+wd<=T)(Z:z=minT ys+wd):agedL kd wd mo T (ys,zs)=agedL kd wd mo T (ys.filter (inW kd wd mo z ys),zs++goneL kd wd mo z ys):=by
 subst M Z
 unfold agedL
 rw [if_pos rfl,if_pos rfl]
 exact ageL_step h
theorem agedL_stop{kd wd mo:Int}(h:kd=2->¬(0<ys.length/\minT ys+wd<=T)):agedL kd wd mo T (ys,zs)=(ys,zs):=by
 unfold agedL
 by_cases hk:kd=2
 ·rw [if_pos hk];exact ageL_stop (h hk)
 rw [if_neg hk]
theorem aged_less{kd wd mo:Int}(Z:kd=2)(h:0<ys.length)(M:z=minT ys+wd):(ys.filter (inW kd wd mo z ys)).length<ys.length:=by
 subst Z M
 exact age_less (wd:=wd) (mo:=mo) h
theorem streamE_zero{nd:Int}{es:List Ev}(M:¬(nd<0\/64<nd))(Z:¬65536<es.length):streamE nd es=streamS nd 0 es:=by unfold streamE;rw [if_neg M,if_neg Z]
theorem fitE_of{nd:Int}{e:Ev}(M:¬checkE e≠0)(Z:¬(nd<=e.u\/nd<=e.v)):fitE nd e=0:=by unfold fitE;rw [if_neg M,if_neg Z]
theorem fitE_six{nd:Int}{e:Ev}(M:¬checkE e≠0)(Z:nd<=e.u\/nd<=e.v):fitE nd e=6:=by unfold fitE;rw [if_neg M,if_pos Z]
theorem fitE_bad{nd:Int}{e:Ev}(Z:checkE e≠0):fitE nd e=checkE e:=by unfold fitE;rw [if_pos Z]
theorem ref_to{nd:Int}{es:List Ev}(Z:FitOk nd (e_ es k))(h:0<k->¬(e_ es k).tm<(e_ es ((k:Int) - 1)).tm):lastT es k<=(e_ es k).tm:=by
 unfold lastT
 split
 ·exact Z.tm.1
 have:=h om;omega
theorem lastT_pos{es:List Ev}(h:0<k):lastT es k=(e_ es ((k:Int) - 1)).tm:=by unfold lastT;rw [if_neg om]
set_option maxHeartbeats 4000000 in
theorem Slide7_ok{κ:Ctx}{I:List Item}{nd kd wd mo:Int}{va:Value}{es:List Ev}(hl:Sl κ I va es):eu Tryz.prog κ 28 [e7 nd,va,.agg #[e7 kd,e7 wd,e7 mo]] I (λr J=>((slideE nd kd wd mo es)≠0/\r = .tuple #[.slice none 0 0,e7 (slideE nd kd wd mo es)]/\I=J)\/(∃a c,(slideE nd kd wd mo es)=0/\r = .tuple #[.slice a (slideS kd wd mo es).2.length c,e7 0]/\J=vk 54 a c (slideS kd wd mo es).2::I)):=by
 refine B5 hl.le λcg=>?_
 refine Ce3 Tryz.func28 C C ?_
 refine Ad<|Ge1 (Bd (cs:=[_,_,_]) C C C) λb1=>Ga C<|Ga C<|Ac<|Ar<|Ad<|Gl3 ty29 ?_
 refine Gc0 (Aj c_ C C<|CheckW7_ok kd wd mo) ?_
 refine Ga C<|Ac<|Ad<|Gm C<|Gr (Be C C)<|Ac<|A7 C (λaa=>?_)<|λaa=>?_
 ·refine Ad (Gm C<|Ga C<|Ga C<|Ac<|Ap (S2 7 6)<|Az<|Ao ?_)
  have hz:(slideE nd kd wd mo es)=checkW kd wd mo:=by unfold slideE;rw [if_pos aa]
  exact C2 C C C I Ax<|.inl ⟨by rw [hz];exact aa,by rw [hz],rfl⟩
 refine Aw<|Ah<|Ar<|Ad<|Gm C<|Gr (A9 C C)<|Gm C<|Bh (d:=28) C (λb5=>?_)<|λb5=>?_
 ·refine eb (eb<|Gr (Av C C)<|Ac<|Ap (S4 31 5 0 1)<|Cu C<|Ad<|Ga C<|Ga C<|Ac<|Az<|Ao ?_)
  have hz:(slideE nd kd wd mo es)=1:=(slideE_st aa).trans (by unfold streamE;rw [if_pos om])
  exact C2 C C C I Ax<|.inl ⟨by rw [hz];decide,by rw [hz],rfl⟩
 refine e9 (Ai C)<|e9 (B2 C C)<|Gr (Au C C)<|Ac<|Ap (S4 31 5 0 1)<|A7 C (λca=>?_)<|λca=>?_
 ·refine Ad (Ga C<|Ga C<|Ac<|Az<|Ao ?_)
  have hz:(slideE nd kd wd mo es)=1:=(slideE_st aa).trans (by unfold streamE;rw [if_pos om])
  exact C2 C C C I Ax<|.inl ⟨by rw [hz];decide,by rw [hz],rfl⟩
 refine Aw<|Ah<|Ar<|Ad<|Gm C<|Gr (Bw (α:=Ev) (xs:=es) Al C<|A8 hl)<|Gr (B2 C C)<|Ac<|A7 C (λcd=>?_)<|λcd=>?_
 ·refine Ad (Ga C<|Ga C<|Ac<|Az<|Ao ?_)
  have hz:(slideE nd kd wd mo es)=3:=(slideE_st aa).trans (by unfold streamE;rw [if_neg om,if_pos om])
  exact C2 C C C I Ax<|.inl ⟨by rw [hz];decide,by rw [hz],rfl⟩
 refine Aw<|Ah<|Ad<|Gm C<|Gr (Bq (cells:=[_,_]) ty35 Fc pl35 C C)<|Ge1 (A4 ty35 C) λb2=>Ge0 (Cz ty35) ?_
 refine Ac<|Ad<|Ga C<|Ac<|Ar<|Ad<|Gm C<|Gr (Bw (α:=Ev) (xs:=es) Al C<|A8 hl)<|Gm C<|Ac<|Ap (S8 39 38 37 10 9 5 0 1)<|A5<|B1 (σ:=Nat×(Option Addr)×Nat×(Option Addr)×Nat×(List Lk)×(List Ev)) (λs=>([(0,e7 nd),(1,va),(5,pt b1),(9,pt b2),(10,.slice s.2.2.2.1 s.2.2.2.2.2.2.length s.2.2.2.2.1),(37,va),(38,e7 ((es.length:Nat):Int)),(39,e7 ((s.1:Nat):Int))]:Env)) (λs=>e8 b2 [e7 nd,.slice s.2.1 s.2.2.2.2.2.1.length s.2.2.1] 35::vk 82 s.2.1 s.2.2.1 s.2.2.2.2.2.1::vk 54 s.2.2.2.1 s.2.2.2.2.1 s.2.2.2.2.2.2::e8 b1 [e7 kd,e7 wd,e7 mo] 29::I) (λs=>(s.1<=es.length)/\(slideS kd wd mo (List.take s.1 es)=(s.2.2.2.2.2.1,s.2.2.2.2.2.2))/\(SlI nd kd wd (lastT es s.1) s.2.2.2.2.2.1)/\(s.2.2.2.2.2.1.length+s.2.2.2.2.2.2.length<=2*s.1)/\(streamE nd es=streamS nd (lastT es s.1) (es.drop s.1))/\(0<=lastT es s.1)) (λs=>es.length - s.1) (0,none,0,none,0,[],[]) (show ((0:Nat)<=es.length)/\(slideS kd wd mo (List.take (0:Nat) es)=(([]:List Lk),([]:List Ev)))/\(SlI nd kd wd (lastT es (0:Nat)) ([]:List Lk))/\(([]:List Lk).length+([]:List Ev).length<=2*(0:Nat))/\(streamE nd es=streamS nd (lastT es (0:Nat)) (es.drop (0:Nat)))/\(0<=lastT es (0:Nat)) from ⟨om,rfl,(SlI.nil om),(by simp),(streamE_zero om om),(Int.le_refl _)⟩) (cx4<|Aa (C8 C<|by first|rfl|simp)<|cx2<|Aa Cd Bp) (show Fit κ _ (e8 b2 [e7 nd,.slice none ([]).length 0] 35::vk 82 none 0 ([])::vk 54 none 0 ([])::e8 b1 [e7 kd,e7 wd,e7 mo] 29::I) from (Co (Cf 54 _)<|Co (Cf 82 _) Bl)) ?_
 rintro ⟨k,a1,c1,o1,d1,xs,out⟩ hp
 dsimp only at hp ⊢
 obtain ⟨hk,bb,hI,hs,av,cj⟩:=hp
 refine Ad<|Gr (A9 C C)<|Ac<|Ar<|A7 C (λbz=>?_)<|λbz=>?_
 ·refine Aw (Ah<|Ar<|A5<|Ad<|Gm C<|Gr (A3 (α:=Ev) (xs:=es) Al ty54 C C (A8 hl) om om)<|Gr (Bv (α:=Ev) (xs:=es) ty54 C (A8 hl) om om)<|Ge1 (A4 ty54 C) λb3=>Ga C<|Ge0 (E8 ty54) ?_)
  refine Ac<|Ap (S10 11 12 0 1 5 9 10 37 38 39)<|Ar<|Ad<|Gl7 ty54 ?_
  refine Gc0 (Aj c_ C C<|CheckE4_ok<|e_ es k) ?_
  refine Ga C<|Ac<|Ad<|Gm C<|Gr (Be C C)<|Ac<|Ap (S12 47 13 11 12 0 1 5 9 10 37 38 39)<|A7 C (λae=>?_)<|λae=>?_
  ·refine Ad (Gm C<|Ga C<|Ga C<|Ac<|Ap (S2 7 6)<|Az<|Ao<|Ba<|Ao<|Ao<|Ba<|Ao ?_)
   have hz:(slideE nd kd wd mo es)=checkE (e_ es k):=(slideE_st aa).trans (av.trans<|(streamS_bad om<|by rw [fitE_bad ae];exact ae).trans (fitE_bad ae))
   exact C2 C C C I Ax<|.inl ⟨by rw [hz];exact ae,by rw [hz],rfl⟩
  refine Aw<|Ah<|Ar<|Ad<|Gf fld54_2 C<|Gl ef ?_
  refine Gm C<|Gr (Cv C C)<|Gm C<|Bh (d:=53) C (λcb=>?_)<|λcb=>?_
  ·refine eb (eb<|eb<|eb<|Gr (Av C C)<|Ac<|Ap (S11 58 11 12 0 1 5 9 10 37 38 39)<|Cu C<|Ad<|Ga C<|Ga C<|Ac<|Az<|Ao<|Ba<|Ao<|Ao<|Ba<|Ao ?_)
   have hz:(slideE nd kd wd mo es)=6:=(slideE_st aa).trans (av.trans<|(streamS_bad om<|by rw [fitE_six ae om];decide).trans (fitE_six ae om))
   exact C2 C C C I Ax<|.inl ⟨by rw [hz];decide,by rw [hz],rfl⟩
  refine e9 (Ab fld54_3 C)<|e9 (A0 ef) ?_
  refine e9 (Ai C)<|e9 (Cv C C)<|Gr (Au C C)<|Ac<|Ap (S11 58 11 12 0 1 5 9 10 37 38 39)<|A7 C (λcc=>?_)<|λcc=>?_
  ·refine Ad (Ga C<|Ga C<|Ac<|Az<|Ao<|Ba<|Ao<|Ao<|Ba<|Ao ?_)
   have hz:(slideE nd kd wd mo es)=6:=(slideE_st aa).trans (av.trans<|(streamS_bad om<|by rw [fitE_six ae om];decide).trans (fitE_six ae om))
   exact C2 C C C I Ax<|.inl ⟨by rw [hz];decide,by rw [hz],rfl⟩
  refine Aw<|Ah<|W.cut (σ:=Nat) (λs=>([(0,e7 nd),(1,va),(5,pt b1),(9,pt b2),(10,.slice o1 out.length d1),(12,pt b3),(37,va),(38,e7 ((es.length:Nat):Int)),(39,e7<|(k:Int))]:Env)) (λs=>e8 b3 (ez (e_ es k)) 54::e8 b2 [e7 nd,.slice a1 xs.length c1] 35::vk 82 a1 c1 xs::vk 54 o1 d1 out::e8 b1 [e7 kd,e7 wd,e7 mo] 29::I) (λs=>(lastT es k<=(e_ es k).tm)/\(FitOk nd<|e_ es k)) ?_ ?_
  ·refine Ar (Bs mixed<|Cc (e8 b3 (ez (e_ es k)) 54::e8 b2 [e7 nd,.slice a1 xs.length c1] 35::vk 82 a1 c1 xs::vk 54 o1 d1 out::e8 b1 [e7 kd,e7 wd,e7 mo] 29::I) 13<|Dr 0 C (Ai C)<|Dr 1 C (B2 C C)<|Dr 2 C (Ai C)<|Dw (d:=61) C (λb6=>?_)<|λb6=>?_)
   ·refine Dro 3 C (Ai C) (Dro 4 C (Ai C)<|Dro 5 C (Rsu C C)<|Dro 6 C (A3 (α:=Ev) (xs:=es) Al ty54 C C (A8 hl) om om)<|Dro 7 C (Fg (α:=Ev) (xs:=es) fld54_1 C (A8 hl) om)<|Dro 8 C (E9 (α:=Ev) (xs:=es) (u:=e7 ((e_ es<|(k:Int) - 1).tm)) ef C (A8 hl) om om C)<|Dro 9 C (Ab fld54_1 C)<|Dro 10 C (A0 ef) ?_)
    refine Dro 11 C (B2 C C)<|Dr 12 C (Av C C)<|Dz<|Ah<|Ap (S10 71 12 0 1 5 9 10 37 38 39)<|A7 C (λbw=>?_)<|λbw=>?_
    ·refine Ad (Ga C<|Ga C<|Ac<|Az<|Ao<|Ba<|Ao<|Ao<|Ba<|Ao ?_)
     have hz:(slideE nd kd wd mo es)=9:=(slideE_st aa).trans (av.trans<|streamS_late om (fitE_of ae om)<|by rw [lastT_pos om];omega)
     exact C2 C C C I Ax<|.inl ⟨by rw [hz];decide,by rw [hz],rfl⟩
    exact Aw<|Fa ((0)) ⟨(ref_to (nd:=nd) (fitE_ok.1<|fitE_of ae om)<|λbx=>by omega),(fitE_ok.1<|fitE_of ae om)⟩ (hI:=by (try dsimp only);exact (Dn _))
   exact Dpo 3 C<|Dpo 4 C<|Dpo 5 C<|Dpo 6 C<|Dpo 7 C<|Dpo 8 C<|Dpo 9 C<|Dpo 10 C<|Dpo 11 C<|Dr 12 C (Au C C)<|Dz<|Ah<|Ap (S10 71 12 0 1 5 9 10 37 38 39)<|Dg C<|Aw<|Fa ((0)) ⟨(ref_to (nd:=nd) (fitE_ok.1<|fitE_of ae om)<|λbx=>by omega),(fitE_ok.1<|fitE_of ae om)⟩ (hI:=by (try dsimp only);exact (Dn _))
  rintro u0 hp
  obtain ⟨bk,ao⟩:(lastT es k<=(e_ es k).tm)/\(FitOk nd<|e_ es k):=hp
  show W Tryz.prog κ 138 _ _ ([(0,e7 nd),(1,va),(5,pt b1),(9,pt b2),(10,.slice o1 out.length d1),(12,pt b3),(37,va),(38,e7 ((es.length:Nat):Int)),(39,e7<|(k:Int))]:Env) (e8 b3 (ez (e_ es k)) 54::e8 b2 [e7 nd,.slice a1 xs.length c1] 35::vk 82 a1 c1 xs::vk 54 o1 d1 out::e8 b1 [e7 kd,e7 wd,e7 mo] 29::I)
  refine W.cut (σ:=(Option Addr)×Nat×(Option Addr)×Nat×(List Lk)×(List Ev)) (λs=>([(0,e7 nd),(1,va),(5,pt b1),(9,pt b2),(10,.slice s.2.2.1 s.2.2.2.2.2.length s.2.2.2.1),(12,pt b3),(37,va),(38,e7 ((es.length:Nat):Int)),(39,e7<|(k:Int))]:Env)) (λs=>e8 b2 [e7 nd,.slice s.1 s.2.2.2.2.1.length s.2.1] 35::vk 82 s.1 s.2.1 s.2.2.2.2.1::vk 54 s.2.2.1 s.2.2.2.1 s.2.2.2.2.2::e8 b1 [e7 kd,e7 wd,e7 mo] 29::e8 b3 (ez (e_ es k)) 54::I) (λs=>((agedL kd wd mo (e_ es k).tm (xs,out))=(s.2.2.2.2.1,s.2.2.2.2.2))/\(SlI nd kd wd (e_ es k).tm s.2.2.2.2.1)/\(s.2.2.2.2.1.length+s.2.2.2.2.2.length=xs.length+out.length)) ?_ ?_
  ·refine A5 (B1 (σ:=(Option Addr)×Nat×(Option Addr)×Nat×(List Lk)×(List Ev)) (λs=>([(0,e7 nd),(1,va),(5,pt b1),(9,pt b2),(10,.slice s.2.2.1 s.2.2.2.2.2.length s.2.2.2.1),(12,pt b3),(37,va),(38,e7 ((es.length:Nat):Int)),(39,e7<|(k:Int))]:Env)) (λs=>e8 b2 [e7 nd,.slice s.1 s.2.2.2.2.1.length s.2.1] 35::vk 82 s.1 s.2.1 s.2.2.2.2.1::vk 54 s.2.2.1 s.2.2.2.1 s.2.2.2.2.2::e8 b1 [e7 kd,e7 wd,e7 mo] 29::e8 b3 (ez (e_ es k)) 54::I) (λs=>((agedL kd wd mo (e_ es k).tm (xs,out))=agedL kd wd mo (e_ es k).tm (s.2.2.2.2.1,s.2.2.2.2.2))/\(SlI nd kd wd (lastT es k) s.2.2.2.2.1)/\(s.2.2.2.2.1.length+s.2.2.2.2.2.length=xs.length+out.length)) (λs=>s.2.2.2.2.1.length) (a1,c1,o1,d1,xs,out) (show ((agedL kd wd mo (e_ es k).tm (xs,out))=agedL kd wd mo (e_ es k).tm ((xs:List Lk),(out:List Ev)))/\(SlI nd kd wd (lastT es k) (xs:List Lk))/\((xs:List Lk).length+(out:List Ev).length=xs.length+out.length) from ⟨rfl,hI,rfl⟩) (cx4<|Aa (C8 C<|by first|rfl|simp)<|cx2<|Aa C<|Aa C Bp) (show Fit κ _ (e8 b2 [e7 nd,.slice a1 (xs).length c1] 35::vk 82 a1 c1 (xs)::vk 54 o1 d1 (out)::e8 b1 [e7 kd,e7 wd,e7 mo] 29::e8 b3 (ez (e_ es k)) 54::I) from Bl) ?_)
   rintro ⟨a3,c3,o3,d3,M,vs⟩ hp
   dsimp only at hp ⊢
   obtain ⟨a5,hJ,bj⟩:=hp
   refine A5<|Ad<|Gl2 ty35 ?_
   refine Gl3 ty29 ?_
   refine G.e (Aj c_ C C<|Until7_ok (nd:=nd) (kd:=kd) (wd:=wd) (mo:=mo) Bi) ?_
   rintro _ _ ⟨_,_,⟨Z,rfl,ap,rfl⟩,rfl,rfl⟩
   refine Gm C<|Gr (Ak C C)<|Gr (Ak C C)<|Gr (Ak C C)<|Ga C<|Ga C<|Ga C<|Ac<|Ap (S11 15 14 0 1 5 9 10 12 37 38 39)<|Ar<|Ad<|Gm C<|Gr (Dc C)<|Gm C<|Bh (d:=81) C (λa8=>?_)<|λa8=>?_
   ·refine eb (eb<|eb<|eb<|Gr (Av C C)<|Ac<|Ap (S11 86 14 0 1 5 9 10 12 37 38 39)<|Cu C<|Bt<|Aq<|V.block_miss C<|Aq<|Bb ?_)
    have ah:kd=2->¬(0<M.length/\minT M+wd<=(e_ es k).tm):=λbc h=>by have hc:untilC nd M kd wd mo:=⟨uErr_zero aa<|λh=>h hJ.val,bc,List.length_pos_iff.1 h.1⟩;first|exact absurd hc a8|(have hz:=minT_uniq (ap.yes hc);omega)
    exact Fa ((a3),(c3),(o3),(d3),(M),(vs))<|by dsimp only;exact ⟨(a5.trans<|agedL_stop ah),(hJ.later bk ah),bj⟩
   refine e9 (Ai C)<|e9 (Ab fld54_1 C)<|e9 (A0 ef) ?_
   refine e9 (B2 C C)<|Gr (Au C C)<|Ac<|Ap (S11 86 14 0 1 5 9 10 12 37 38 39)<|A7 C (λb8=>?_)<|λb8=>?_
   ·refine Bt (Aq<|V.block_miss C<|Aq<|Bb ?_)
    have ah:kd=2->¬(0<M.length/\minT M+wd<=(e_ es k).tm):=λbc h=>by have hc:untilC nd M kd wd mo:=⟨uErr_zero aa<|λh=>h hJ.val,bc,List.length_pos_iff.1 h.1⟩;first|exact absurd hc a8|(have hz:=minT_uniq (ap.yes hc);omega)
    exact Fa ((a3),(c3),(o3),(d3),(M),(vs))<|by dsimp only;exact ⟨(a5.trans<|agedL_stop ah),(hJ.later bk ah),bj⟩
   refine Aw<|Ah<|Ad<|Gl2 ty35 ?_
   refine Gl3 ty29 ?_
   refine Gm C ?_
   have ci:=ao.tm
   have hc:untilC nd M kd wd mo:=by first|exact Classical.not_not.1 a8|assumption
   have az:0<M.length:=List.length_pos_iff.2 hc.2.2
   have hz:Z=minT M+wd:=minT_uniq (ap.yes hc)
   have ck:=hJ.first hc.2.1 az
   have bu:askE nd M kd wd mo Z=0:=hJ.ask (Classical.not_not.1 aa) om om
   have ch:=gone_len kd wd mo Z M
   refine G.e (Aj c_ C C<|Expired7_ok (nd:=nd) (kd:=kd) (wd:=wd) (mo:=mo) (nw:=Z) (xs:=M) Bi<|by first|omega|(have h:=stepL_len ys (e_ es k);omega)) ?_
   rintro _ _ ⟨_,_,(⟨a7,rfl,rfl⟩|⟨aq,ar,b9,rfl,rfl⟩),rfl,rfl⟩
   ·exact absurd bu a7
   show G Tryz.prog κ _ _ _ _ ([(91,.tuple #[.slice aq (goneL kd wd mo Z M).length ar,e7 0]),(90,e7 Z),(89,.agg #[e7 kd,e7 wd,e7 mo]),(88,.agg #[e7 nd,.slice a3 M.length c3]),(86,.bool<|decide<|((e_ es k).tm)<Z),(14,e7 Z),(0,e7 nd),(1,va),(5,pt b1),(9,pt b2),(10,.slice o3 vs.length d3),(12,pt b3),(37,va),(38,e7 ((es.length:Nat):Int)),(39,e7<|(k:Int))]:Env) (vk 54 aq ar (goneL kd wd mo Z M)::e8 b2 [e7 nd,.slice a3 M.length c3] 35::vk 82 a3 c3 M::vk 54 o3 d3 vs::e8 b1 [e7 kd,e7 wd,e7 mo] 29::e8 b3 (ez (e_ es k)) 54::I)
   refine Gm C<|Gr (Ak C C)<|Gr (Ak C C)<|Ga C<|Ga C<|Ac<|Ap (S10 17 0 1 5 9 10 12 37 38 39)<|Ad<|Gl2 ty35 ?_
   refine Gm C<|G.e (Aj c_ C C<|Cp (J:=vk 82 a3 c3 M::vk 54 aq ar (goneL kd wd mo Z M)::e8 b2 [e7 nd,.slice a3 M.length c3] 35::vk 54 o3 d3 vs::e8 b1 [e7 kd,e7 wd,e7 mo] 29::e8 b3 (ez (e_ es k)) 54::I) Bl<|All5_base (nd:=nd) (xs:=M) (es:=goneL kd wd mo Z M) Bi hJ.val (fitgone hJ.val om)<|by first|omega|(have h:=stepL_len ys (e_ es k);have h9:=gone_len kd wd mo (e_ es k).tm (ep ys<|e_ es k);omega)) ?_
   rintro _ _ ⟨_,_,⟨⟨be,ba,ce⟩,rfl,rfl⟩,rfl,rfl⟩
   show G Tryz.prog κ _ _ _ _ ([(97,.tuple #[.agg #[e7 nd,.slice be (List.foldl ep M<|goneL kd wd mo Z M).length ba],e7 ce,e7 0]),(96,.slice aq (goneL kd wd mo Z M).length ar),(95,.agg #[e7 nd,.slice a3 M.length c3]),(17,.slice aq (goneL kd wd mo Z M).length ar),(0,e7 nd),(1,va),(5,pt b1),(9,pt b2),(10,.slice o3 vs.length d3),(12,pt b3),(37,va),(38,e7 ((es.length:Nat):Int)),(39,e7<|(k:Int))]:Env) (vk 82 be ba (List.foldl ep M<|goneL kd wd mo Z M)::vk 54 aq ar (goneL kd wd mo Z M)::e8 b2 [e7 nd,.slice a3 M.length c3] 35::vk 54 o3 d3 vs::e8 b1 [e7 kd,e7 wd,e7 mo] 29::e8 b3 (ez (e_ es k)) 54::I)
   refine Gm C<|Gr (Ak C C)<|Gr (Ak C C)<|Gr (Ak C C)<|Ge0 (Cz ty35) ?_
   refine Ac<|Ap (S10 17 0 1 5 9 10 12 37 38 39)<|Ay<|Gm C<|Gm C<|Ge2 (B3 (α:=Ev) (e:=54) (xs:=vs) (ys:=goneL kd wd mo Z M) Al ty54 C C C mm Bi (by first|omega|(simp only [List.length_append,List.length_cons,List.length_nil];omega)|(have h:=stepL_len ys (e_ es k);have h9:=gone_len kd wd mo (e_ es k).tm (ep ys<|e_ es k);first|omega|(simp only [List.length_append,List.length_cons,List.length_nil];omega))) dc C<|λ_ _=>am) λbr bm=>?_
   refine Ga C<|Bj<|Am ?_
   have hg:=gone_steps (kd:=kd) (wd:=wd) (mo:=mo) (nw:=Z) hJ.val
   have cf:=gone_len kd wd mo Z M
   exact Cb ((be),(ba),(br),(bm),(List.filter (inW kd wd mo Z M) M),(vs++goneL kd wd mo Z M)) (by dsimp only;exact ⟨(a5.trans<|agedL_step hc.2.1 ⟨az,by omega⟩ hz),(hJ.filter _),(by rw [List.length_append];omega)⟩) (hlt:=by (try dsimp only);exact (aged_less hc.2.1 az hz)) (hI:=by (try dsimp only);exact (by rw [←hg];exact Bl))
  rintro ⟨a2,c2,o2,d2,ys,zs⟩ hp
  obtain ⟨bh,bq,cm⟩:((agedL kd wd mo (e_ es k).tm (xs,out))=(ys,zs))/\(SlI nd kd wd (e_ es k).tm ys)/\(ys.length+zs.length=xs.length+out.length):=hp
  show W Tryz.prog κ 138 _ _ ([(0,e7 nd),(1,va),(5,pt b1),(9,pt b2),(10,.slice o2 zs.length d2),(12,pt b3),(37,va),(38,e7 ((es.length:Nat):Int)),(39,e7<|(k:Int))]:Env) (e8 b2 [e7 nd,.slice a2 ys.length c2] 35::vk 82 a2 c2 ys::vk 54 o2 d2 zs::e8 b1 [e7 kd,e7 wd,e7 mo] 29::e8 b3 (ez (e_ es k)) 54::I)
  refine Ad<|Gl2 ty35 ?_
  refine Gl7 ty54 ?_
  refine G.e (Aj c_ C C<|Apply5_ok (nd:=nd) (e:=(e_ es k)) Bi bq.val ao om) ?_
  rintro _ _ ⟨_,_,⟨⟨ad,ab,bp,a9,bf⟩,⟨rfl,ax⟩,rfl⟩,rfl,rfl⟩
  show G Tryz.prog κ _ _ _ _ ([(107,.tuple #[.agg #[e7 nd,.slice ad (ep ys<|e_ es k).length ab],.slice bp a9 bf,e7 0]),(106,.agg (ez (e_ es k)).toArray),(105,.agg #[e7 nd,.slice a2 ys.length c2]),(0,e7 nd),(1,va),(5,pt b1),(9,pt b2),(10,.slice o2 zs.length d2),(12,pt b3),(37,va),(38,e7 ((es.length:Nat):Int)),(39,e7<|(k:Int))]:Env) (vk 82 ad ab (ep ys<|e_ es k)::e8 b2 [e7 nd,.slice a2 ys.length c2] 35::vk 82 a2 c2 ys::vk 54 o2 d2 zs::e8 b1 [e7 kd,e7 wd,e7 mo] 29::e8 b3 (ez (e_ es k)) 54::I)
  have ax:a9<=2*ys.length+1:=ax
  refine Gm C<|Gr (Ak C C)<|Gr (Ak C C)<|Gr (Ak C C)<|Ge0 (Cz ty35) ?_
  have au:SlI nd kd wd (e_ es k).tm (ep ys<|e_ es k):=bq.step ao rfl (checkW_one<|Classical.not_not.1 aa)
  have bo:streamE nd es=streamS nd (lastT es<|k+1) (es.drop<|k+1):=av.trans (streamS_step om (fitE_ok.2 ao) om)
  refine Ac<|Ap (S9 0 1 5 9 10 12 37 38 39)<|Ad<|Gm C<|Gl7 ty54 ?_
  refine Ge1 (Ce (α:=Ev) (cs:=(ez (e_ es k))) (xs:=[⟨(e_ es k).kd,(e_ es k).tm,(e_ es k).u,(e_ es k).v,(e_ es k).w,(e_ es k).lb,(e_ es k).sg⟩]) Al ty54 C C dc dc C kr C C) λa4=>?_
  refine Ge2 (B3 (α:=Ev) (e:=54) (xs:=zs) (ys:=([⟨(e_ es k).kd,(e_ es k).tm,(e_ es k).u,(e_ es k).v,(e_ es k).w,(e_ es k).lb,(e_ es k).sg⟩]:List Ev)) Al ty54 C C C mm Bi (by first|omega|(simp only [List.length_append,List.length_cons,List.length_nil];omega)|(have h:=stepL_len ys (e_ es k);have h9:=gone_len kd wd mo (e_ es k).tm (ep ys<|e_ es k);first|omega|(simp only [List.length_append,List.length_cons,List.length_nil];omega))) dc C<|λ_ _=>am) λan aj=>?_
  refine Ga C<|Ac<|Ap (S9 10 0 1 5 9 12 37 38 39)<|Ad<|Gf fld29_0 C<|Gl ef ?_
  refine Gr (Br C C)<|Ac<|A7 C (λaw=>?_)<|λaw=>?_
  ·refine Ad (Gl2 ty35 ?_)
   refine Gl3 ty29 ?_
   refine Gf fld54_1 C<|Gl ef ?_
   refine G.e (Aj c_ C C<|Expired7_ok (nd:=nd) (kd:=kd) (wd:=wd) (mo:=mo) (nw:=((e_ es k).tm)) (xs:=ep ys (e_ es k)) Bi<|by first|omega|(have h:=stepL_len ys (e_ es k);omega)) ?_
   rintro _ _ ⟨_,_,(⟨ay,rfl,rfl⟩|⟨ai,ak,bv,rfl,rfl⟩),rfl,rfl⟩
   ·exact absurd (au.ask (Classical.not_not.1 aa) ao.tm<|Int.le_refl _) ay
   show G Tryz.prog κ _ _ _ _ ([(123,.tuple #[.slice ai (goneL kd wd mo ((e_ es k).tm)<|ep ys<|e_ es k).length ak,e7 0]),(122,e7<|(e_ es k).tm),(121,.pointer<|some ⟨b3,1,none⟩),(120,.agg #[e7 kd,e7 wd,e7 mo]),(119,.agg #[e7 nd,.slice ad (ep ys<|e_ es k).length ab]),(117,.bool<|decide<|kd=3),(116,e7 kd),(115,pt b1),(10,.slice an (zs++([⟨(e_ es k).kd,(e_ es k).tm,(e_ es k).u,(e_ es k).v,(e_ es k).w,(e_ es k).lb,(e_ es k).sg⟩]:List Ev)).length aj),(0,e7 nd),(1,va),(5,pt b1),(9,pt b2),(12,pt b3),(37,va),(38,e7 ((es.length:Nat):Int)),(39,e7<|(k:Int))]:Env) (vk 54 ai ak (goneL kd wd mo ((e_ es k).tm)<|ep ys<|e_ es k)::vc 54 (.slice a4 1 1) (([⟨(e_ es k).kd,(e_ es k).tm,(e_ es k).u,(e_ es k).v,(e_ es k).w,(e_ es k).lb,(e_ es k).sg⟩]:List Ev))::vk 82 ad ab (ep ys<|e_ es k)::e8 b2 [e7 nd,.slice ad (ep ys<|e_ es k).length ab] 35::vk 82 a2 c2 ys::vk 54 an aj (zs++([⟨(e_ es k).kd,(e_ es k).tm,(e_ es k).u,(e_ es k).v,(e_ es k).w,(e_ es k).lb,(e_ es k).sg⟩]:List Ev))::e8 b1 [e7 kd,e7 wd,e7 mo] 29::e8 b3 (ez (e_ es k)) 54::I)
   refine Gm C<|Gr (Ak C C)<|Gr (Ak C C)<|Ga C<|Ga C<|Ac<|Ap (S9 19 10 0 1 5 9 37 38 39)<|Ad<|Gl2 ty35 ?_
   refine Gm C<|G.e (Aj c_ C C<|Cp (J:=vk 82 ad ab (ep ys<|e_ es k)::vk 54 ai ak (goneL kd wd mo ((e_ es k).tm)<|ep ys<|e_ es k)::vc 54 (.slice a4 1 1) (([⟨(e_ es k).kd,(e_ es k).tm,(e_ es k).u,(e_ es k).v,(e_ es k).w,(e_ es k).lb,(e_ es k).sg⟩]:List Ev))::e8 b2 [e7 nd,.slice ad (ep ys<|e_ es k).length ab] 35::vk 82 a2 c2 ys::vk 54 an aj (zs++([⟨(e_ es k).kd,(e_ es k).tm,(e_ es k).u,(e_ es k).v,(e_ es k).w,(e_ es k).lb,(e_ es k).sg⟩]:List Ev))::e8 b1 [e7 kd,e7 wd,e7 mo] 29::e8 b3 (ez (e_ es k)) 54::I) Bl<|All5_base (nd:=nd) (xs:=ep ys (e_ es k)) (es:=goneL kd wd mo ((e_ es k).tm) (ep ys<|e_ es k)) Bi au.val (fitgone au.val ao.tm)<|by first|omega|(have h:=stepL_len ys (e_ es k);have h9:=gone_len kd wd mo (e_ es k).tm (ep ys<|e_ es k);omega)) ?_
   rintro _ _ ⟨_,_,⟨⟨a6,a0,bn⟩,rfl,rfl⟩,rfl,rfl⟩
   show G Tryz.prog κ _ _ _ _ ([(129,.tuple #[.agg #[e7 nd,.slice a6 (List.foldl ep (ep ys<|e_ es k)<|goneL kd wd mo ((e_ es k).tm)<|ep ys<|e_ es k).length a0],e7 bn,e7 0]),(128,.slice ai (goneL kd wd mo ((e_ es k).tm)<|ep ys<|e_ es k).length ak),(127,.agg #[e7 nd,.slice ad (ep ys<|e_ es k).length ab]),(19,.slice ai (goneL kd wd mo ((e_ es k).tm)<|ep ys<|e_ es k).length ak),(10,.slice an (zs++([⟨(e_ es k).kd,(e_ es k).tm,(e_ es k).u,(e_ es k).v,(e_ es k).w,(e_ es k).lb,(e_ es k).sg⟩]:List Ev)).length aj),(0,e7 nd),(1,va),(5,pt b1),(9,pt b2),(37,va),(38,e7 ((es.length:Nat):Int)),(39,e7<|(k:Int))]:Env) (vk 82 a6 a0 (List.foldl ep (ep ys<|e_ es k)<|goneL kd wd mo ((e_ es k).tm)<|ep ys<|e_ es k)::vk 54 ai ak (goneL kd wd mo ((e_ es k).tm)<|ep ys<|e_ es k)::vc 54 (.slice a4 1 1) (([⟨(e_ es k).kd,(e_ es k).tm,(e_ es k).u,(e_ es k).v,(e_ es k).w,(e_ es k).lb,(e_ es k).sg⟩]:List Ev))::e8 b2 [e7 nd,.slice ad (ep ys<|e_ es k).length ab] 35::vk 82 a2 c2 ys::vk 54 an aj (zs++([⟨(e_ es k).kd,(e_ es k).tm,(e_ es k).u,(e_ es k).v,(e_ es k).w,(e_ es k).lb,(e_ es k).sg⟩]:List Ev))::e8 b1 [e7 kd,e7 wd,e7 mo] 29::e8 b3 (ez (e_ es k)) 54::I)
   refine Gm C<|Gr (Ak C C)<|Gr (Ak C C)<|Gr (Ak C C)<|Ge0 (Cz ty35) ?_
   refine Ac<|Ap (S9 19 10 0 1 5 9 37 38 39)<|Ay<|Gm C<|Gm C<|Ge2 (B3 (α:=Ev) (e:=54) (xs:=zs++([⟨(e_ es k).kd,(e_ es k).tm,(e_ es k).u,(e_ es k).v,(e_ es k).w,(e_ es k).lb,(e_ es k).sg⟩]:List Ev)) (ys:=goneL kd wd mo ((e_ es k).tm) (ep ys<|e_ es k)) Al ty54 C C C mm Bi (by first|omega|(simp only [List.length_append,List.length_cons,List.length_nil];omega)|(have h:=stepL_len ys (e_ es k);have h9:=gone_len kd wd mo (e_ es k).tm (ep ys<|e_ es k);first|omega|(simp only [List.length_append,List.length_cons,List.length_nil];omega))) dc C<|λ_ _=>am) λbt bi=>?_
   refine Ga C<|Bj<|Am<|Ah<|Ay<|Gr (Rad C C)<|Gm C<|Bj ?_
   have cf:=gone_len kd wd mo (e_ es k).tm (ep ys<|e_ es k)
   have b4:=stepL_len ys (e_ es k)
   have b7:=gone_steps (kd:=kd) (wd:=wd) (mo:=mo) (nw:=(e_ es k).tm) au.val
   exact Cb ((k+1),(a6),(a0),(bt),(bi),(List.filter (inW kd wd mo (e_ es k).tm (ep ys<|e_ es k))<|ep ys<|e_ es k),(zs++[(e_ es k)]++goneL kd wd mo (e_ es k).tm (ep ys<|e_ es k))) (by dsimp only;exact ⟨om,(by rw [slideS_succ om,bb];exact evStep_three bh aw),(by rw [lastT_succ];exact au.filter _),lap,bo,(by rw [lastT_succ];exact ao.tm.1)⟩) (hI:=by (try dsimp only);exact (by rw [←b7];exact Bl))
  refine Aw<|Am<|Ah<|Ay<|Gr (Rad C C)<|Gm C<|Bj ?_
  have b4:=stepL_len ys (e_ es k)
  exact Cb ((k+1),(ad),(ab),(an),(aj),((ep ys<|e_ es k)),(zs++[(e_ es k)]))<|by dsimp only;exact ⟨om,(by rw [slideS_succ om,bb];exact evStep_not bh aw),(by rw [lastT_succ];exact au),lap,bo,(by rw [lastT_succ];exact ao.tm.1)⟩
 refine Bt<|Aq<|Aq<|Bb<|Ah<|Ad<|Gm C<|Ga C<|Ga C<|Ac<|Az ?_
 have bg:(slideS kd wd mo es)=(xs,out):=by rw [←bb,show List.take k es=es from List.take_of_length_le om]
 have hz:(slideE nd kd wd mo es)=0:=(slideE_st aa).trans (av.trans<|streamS_end om)
 exact C2 C C C (vk 54 o1 d1 (slideS kd wd mo es).2::I) (by unfold vk;rw [bg];exact Bl)<|.inr ⟨o1,d1,hz,by rw [bg],rfl⟩
end Go.Sl
namespace Go.Sl
end Go.Sl
namespace Go.Sl
open Go.Proofs
set_option maxRecDepth 4000
theorem bit_maskB{l:List Int}{i:Nat}(hi:i<64):(maskB l).getLsbD i=true↔(i:Int)∈l:=by
 unfold maskB;rw [getLsb_maskB hi];simp
end Go.Sl
namespace Go.Sl
def ClosB(rows:List (BitVec 64))(k:Nat)(W:BitVec 64):Prop:=∀u∈eo W,k<=degB rows W u
theorem degB_mono{rows:List (BitVec 64)}{W L:BitVec 64}(h:∀u∈eo W,u∈eo L)(v:Int):degB rows W v<=degB rows L v:=by
 unfold degB
 refine List.Nodup.length_le_of_subset (listB_nodup _) λx Z=>?_
 obtain ⟨h1,M⟩:=mem_andB.1 Z
 exact mem_andB.2 ⟨h1,h x M⟩
theorem coreR_ind{rows:List (BitVec 64)}{X:BitVec 64->Nat->List (Int×Nat)->Prop}(h0:∀k,X 0#64 k [])
  (hs:∀left k v,Takes rows left v->X (left &&& ~~~(1#64 <<< v.toNat)) (max k<|degB rows left v) (coreR rows (left &&& ~~~(1#64 <<< v.toNat))<|max k<|degB rows left v)->X left k ((v,max k<|degB rows left v)::coreR rows (left &&& ~~~(1#64 <<< v.toNat)) (max k<|degB rows left v))) :
  ∀(n:Nat) (left:BitVec 64) (k:Nat),(eo left).length=n->X left k (coreR rows left k)
 |0,left,k,h=>by
  have:left=0#64:=Classical.byContradiction λhn=>by
   obtain ⟨u,hu⟩:=nz_listB.1 hn
   have:=List.length_pos_of_mem hu;omega
  subst this
  rw [coreR_zero];exact h0 k
 |n+1,left,k,h=>by
  have Z:left≠0#64:=λe=>by subst e;rw [listB_zero] at h;simp at h
  have M:=takeF_takes (rows:=rows) Z
  rw [coreR_step M]
  have hm:=listB_minus M.mem
  exact hs _ _ _ M<|coreR_ind h0 hs n _ _<|by omega
section
variable {rows:List (BitVec 64)}
theorem coreR_keys(left:BitVec 64)(k:Nat):(ordL (coreR rows left k)).Nodup/\(∀v,v∈ordL (coreR rows left k)↔v∈eo left):=by
 refine coreR_ind (rows:=rows) (X:=λleft k l=>(ordL l).Nodup/\∀v,v∈ordL l↔v∈eo left) (λk=>?_) (λleft k v Z ih=>?_) _ left k rfl
 ·refine ⟨List.nodup_nil,λv=>?_⟩
  rw [listB_zero];exact Iff.rfl
 have h0:=(listB_lt Z.mem).1
 obtain ⟨h1,M⟩:=ih
 refine ⟨List.nodup_cons.2 ⟨λhm=>((mem_minus h0).1 ((M v).1 hm)).2 rfl,h1⟩,λu=>?_⟩
 show u∈v::ordL (coreR rows _ _)↔_
 rw [List.mem_cons,M,mem_minus h0]
 constructor
 ·rintro (rfl|h)
  ·exact Z.mem
  exact h.1
 intro h
 by_cases e:u=v
 ·exact .inl e
 exact .inr ⟨h,e⟩
theorem coreR_ge(left:BitVec 64)(k:Nat):∀p∈coreR rows left k,k<=p.2:=by
 refine coreR_ind (rows:=rows) (X:=λleft k l=>∀p∈l,k<=p.2) (λk p hp=>by cases hp) (λleft k v M Z p hp=>?_) _ left k rfl
 rcases List.mem_cons.1 hp with rfl|hp
 ·show k<=max k _;omega
 have:=Z p hp;omega
theorem coreR_clos{j:Nat}{W:BitVec 64}(hW:ClosB rows j W)(left:BitVec 64)(k:Nat):(∀u∈eo W,u∈eo left)->∀p∈coreR rows left k,p.1∈eo W->j<=p.2:=by
 refine coreR_ind (rows:=rows) (X:=λleft k l=>(∀u∈eo W,u∈eo left)->∀p∈l,p.1∈eo W->j<=p.2) (λk _ p hp=>by cases hp) (λleft k v hT ih Z p hp M=>?_) _ left k rfl
 have h0:=(listB_lt hT.mem).1
 by_cases hv:v∈eo W
 ·have h1:=hW v hv
  have h2:=degB_mono (rows:=rows) Z v
  rcases List.mem_cons.1 hp with rfl|hp
  ·show j<=max k _;omega
  have:=coreR_ge _ _ p hp;omega
 rcases List.mem_cons.1 hp with rfl|hp
 ·exact absurd M hv
 exact ih (λu hu=>(mem_minus h0).2 ⟨Z u hu,λe=>hv<|e▸hu⟩) p hp M
theorem coreR_core(left:BitVec 64)(k0:Nat):∀k,k0<k->∃W:BitVec 64,ClosB rows k W/\(∀u∈eo W,u∈eo left)/\∀p∈coreR rows left k0,k<=p.2↔p.1∈eo W:=by
 refine coreR_ind (rows:=rows) (X:=λleft k0 l=>∀k,k0<k->∃W:BitVec 64,ClosB rows k W/\(∀u∈eo W,u∈eo left)/\∀p∈l,k<=p.2↔p.1∈eo W) (λk0 k hk=>?_) (λleft k0 v Z ih k hk=>?_) _ left k0 rfl
 ·refine ⟨0#64,λu hu=>?_,λu hu=>hu,λp hp=>by cases hp⟩
  rw [listB_zero] at hu;cases hu
 have M:=(listB_lt Z.mem).1
 by_cases hc:k<=max k0 (degB rows left v)
 ·refine ⟨left,λu hu=>?_,λu hu=>hu,λp hp=>⟨λ_=>?_,λ_=>?_⟩⟩
  ·have:=Z.le u hu;omega
  ·rcases List.mem_cons.1 hp with rfl|hp
   ·exact Z.mem
   have h1:p.1∈ordL (coreR rows (left &&& ~~~(1#64 <<< v.toNat))<|max k0<|degB rows left v):=List.mem_map.2 ⟨p,hp,rfl⟩
   exact ((mem_minus M).1 (((coreR_keys _ _).2 _).1 h1)).1
  rcases List.mem_cons.1 hp with rfl|hp
  ·exact hc
  have:=coreR_ge _ _ p hp;omega
 obtain ⟨W,h1,h2,h3⟩:=ih k (by omega)
 refine ⟨W,h1,λu hu=>((mem_minus M).1 (h2 u hu)).1,λp hp=>?_⟩
 rcases List.mem_cons.1 hp with rfl|hp
 ·exact ⟨λh=>absurd h hc,λh=>absurd rfl ((mem_minus M).1 (h2 _ h)).2⟩
 exact h3 p hp
theorem numL_at{n:Nat}:∀{l:List (Int×Nat)},(ordL l).Nodup->(∀v∈ordL l,0<=v/\v<(n:Int))->∀p∈l,e_ (numL n l) p.1=(p.2:Int):=by
 intro l
 unfold numL
 have hk:∀(l:List (Int×Nat)) (xs:List Int) (u:Int),0<=u->(∀v∈ordL l,0<=v)->u∉ordL l->e_ (l.foldl (λxs p=>xs.set p.1.toNat (p.2:Int)) xs) u=e_ xs u:=λl=>by
  induction l with
  |nil=>intro xs u _ _ _;rfl
  |cons q l ih=>
   intro xs u hu h0 hn
   have hq:0<=q.1:=h0 q.1 List.mem_cons_self
   have ab:u≠q.1:=λe=>hn (by rw [e];exact List.mem_cons_self)
   rw [List.foldl_cons,ih _ u hu (λv hv=>h0 v<|List.mem_cons_of_mem _ hv) λh=>hn<|List.mem_cons_of_mem _ h]
   unfold e_
   rw [List.getD_eq_getElem?_getD,List.getD_eq_getElem?_getD,List.getElem?_set_ne (by omega)]
 have:∀(l:List (Int×Nat)) (xs:List Int),xs.length=n->(ordL l).Nodup->(∀v∈ordL l,0<=v/\v<(n:Int))->∀p∈l,e_ (l.foldl (λxs p=>xs.set p.1.toNat (p.2:Int)) xs) p.1=(p.2:Int):=λl=>by
  induction l with
  |nil=>intro xs _ _ _ p hp;cases hp
  |cons q l ih=>
   intro xs hl hn hr p hp
   obtain ⟨hq,aa⟩:=List.nodup_cons.1 (show (q.1::ordL l).Nodup from hn)
   have M:∀v∈ordL l,0<=v/\v<(n:Int):=λv hv=>hr v (List.mem_cons_of_mem _ hv)
   have Z:=hr q.1 List.mem_cons_self
   rw [List.foldl_cons]
   rcases List.mem_cons.1 hp with rfl|hp
   ·rw [hk l _ p.1 Z.1 (λv hv=>(M v hv).1) hq,at_set _ _ _ _ Z.1 Z.1<|by omega,if_pos rfl]
   exact ih _ (by rw [List.length_set];exact hl) aa M p hp
 exact λh1 h2=>this l _ List.length_replicate h1 h2
end
end Go.Sl
namespace Go.Sl
open Go.Proofs
set_option maxRecDepth 4000
variable{u:Int}{k:Nat}{W:BitVec 64}{l:List Int}
section
variable {nd:Int}{es:List Pt}
theorem coreL_at(M:GrOk nd es)(h0:0<=u)(h1:u<nd):∃p∈coreR0 nd es,p.1=u/\e_ (coreN nd es) u=(p.2:Int):=by
 have hl:=M.rows.len
 have hS:=rows_sym M
 have Z:=coreR_keys (rows:=ek nd es) (allB ((ek nd es).length:Int)) 0
 have hm:u∈ordL (coreR0 nd es):=(Z.2 u).2 ((mem_allN hS.le).2 om)
 obtain ⟨p,hp,rfl⟩:=List.mem_map.1 hm
 refine ⟨p,hp,rfl,?_⟩
 unfold coreN
 rw [if_neg (by rw [checkG_ok.2 M];decide)]
 exact numL_at Z.1 (λv hv=>by have:=(mem_allN hS.le).1 ((Z.2 v).1 hv);omega) p hp
theorem core_clos(Z:GrOk nd es)(hc:ClosB (ek nd es) k W)(hs:subN nd W)(hu:u∈eo W):(k:Int)<=e_ (coreN nd es) u:=by
 have hl:=Z.rows.len
 have hr:=Z.rng
 have hS:=rows_sym Z
 obtain ⟨p,hp,e,h⟩:=coreL_at Z (Ey hu).1 (hs u hu)
 have:=coreR_clos hc (allB ((ek nd es).length:Int)) 0 (λx M=>(mem_allN hS.le).2 ⟨(Ey M).1,by have:=hs x M;omega⟩) p hp (by rw [e];exact hu)
 omega
theorem core_some(Z:GrOk nd es)(hk:1<=k):∃W,ClosB (ek nd es) k W/\subN nd W/\∀u,0<=u->u<nd->(k:Int)<=e_ (coreN nd es) u->u∈eo W:=by
 have hl:=Z.rows.len
 have hr:=Z.rng
 have hS:=rows_sym Z
 obtain ⟨W,h1,h2,M⟩:=coreR_core (rows:=ek nd es) (allB ((ek nd es).length:Int)) 0 k om
 refine ⟨W,h1,λx hx=>by have:=(mem_allN hS.le).1 (h2 x hx);omega,λu h0 h4 h5=>?_⟩
 obtain ⟨p,hp,e,h⟩:=coreL_at Z h0 h4
 have:=(M p hp).1 om
 rwa [e] at this
theorem core_pos(Z:GrOk nd es)(h0:0<=u)(h1:u<nd):0<=e_ (coreN nd es) u/\e_ (coreN nd es) u<nd:=by
 have hl:=Z.rows.len
 have hr:=Z.rng
 have hS:=rows_sym Z
 obtain ⟨p,M,e,h⟩:=coreL_at Z h0 h1
 have:=coreF_bound (degB_all hS om) _ _ _ (Nat.zero_le _) p M
 omega
theorem deg_meet(Z:GrOk nd es)(M:∀x,x∈eo W↔x∈l)(h0:0<=u)(h1:u<nd):degB (ek nd es) W u=(meetL (nbG nd es u) l).length:=by
 unfold degB
 have hr:=Z.rng
 refine ((List.perm_ext_iff_of_nodup (Dp _) ?_).2 λx=>?_).length_eq
 ·unfold meetL
  exact ((ofL_asc _).imp λh=>by omega:(ofL<|nbG nd es u).Nodup).filter _
 rw [mem_andB,mem_meetL,M,Z.rows.mem h0 h1]
 unfold nbG
 rw [if_neg (by rw [checkG_ok.2 Z];decide),mem_ofL,mem_nbL]
 refine and_congr_left λ_=>⟨λh=>h.2,λh=>⟨?_,h⟩⟩
 rcases h with h|h
 ·have:=Z.edge _ h;simp only at this;omega
 have:=Z.edge _ h;simp only at this;omega
theorem mask_list{n:Int}(hn:n<=64)(h:∀x∈l,0<=x/\x<n)(x:Int):x∈eo (maskB l)↔x∈l:=by
 rw [D5]
 constructor
 ·rintro ⟨h0,Z⟩
  have hlt:=BitVec.lt_of_getLsbD Z
  rw [bit_maskB hlt,Int.toNat_of_nonneg h0] at Z
  exact Z
 intro M
 have:=h x M
 refine ⟨this.1,(bit_maskB om).2 ?_⟩
 rw [Int.toNat_of_nonneg this.1];exact M
end
end Go.Sl
namespace Go.Sl
def ind(p:Bool):Int:=if p=true then 1 else 0
def prs(k:Int):Int:=k*(k - 1) / 2
theorem ind_01(p:Bool):ind p=0\/ind p=1:=by unfold ind;split<;>simp
theorem ind_f:ind false=0:=rfl
theorem ind_t:ind true=1:=rfl
theorem pairs_two(p:Nat->Bool):∀n:Nat,2*sumN n (λy=>sumN n (λx=>ind (decide (x<y)&&p x&&p y)))=sumN n (λx=>ind (p x))*sumN n (λx=>ind (p x)) - sumN n (λx=>ind (p x))
 |0=>rfl
 |n+1=>by
  have Z:=pairs_two p n
  have h1:∀y,y<n->sumN (n+1) (λx=>ind<|decide (x<y)&&p x&&p y)=sumN n (λx=>ind<|decide (x<y)&&p x&&p y):=λy hy=>by
   show sumN n _+ind _=_
   rw [decide_eq_false (show ¬n<y by omega)]
   simp [ind]
  have h2:sumN (n+1) (λx=>ind<|decide (x<n)&&p x&&p n)=if p n=true then sumN n (λx=>ind<|p x) else 0:=by
   show sumN n _+ind _=_
   rw [decide_eq_false (show ¬n<n by omega)]
   cases hn:p n with
   |true=>
    rw [if_pos rfl]
    simp only [Bool.false_and,Bool.and_true,ind_f,Int.add_zero]
    exact sumN_congr n λx hx=>by rw [decide_eq_true hx,Bool.true_and]
   |false=>
    simp only [Bool.and_false,ind_f,Int.add_zero]
    rw [if_neg (by decide)]
    exact sumN_zero n
  have M:sumN (n+1) (λy=>sumN (n+1)<|λx=>ind<|decide (x<y)&&p x&&p y)=sumN n (λy=>sumN n<|λx=>ind<|decide (x<y)&&p x&&p y)+if p n=true then sumN n (λx=>ind<|p x) else 0:=by
   show sumN n _+sumN (n+1) _=_
   rw [sumN_congr n h1,h2]
  rw [M]
  show 2*(_+_)=(sumN n _+ind (p n))*(sumN n _+ind (p n)) - (sumN n _+ind (p n))
  cases hn:p n with
  |true=>
   rw [if_pos rfl,ind_t,Int.mul_add,Z,Int.mul_add,Int.add_mul,Int.mul_one,Int.one_mul]
   omega
  |false=>
   rw [if_neg (by decide),ind_f,Int.add_zero,Int.add_zero]
   exact Z
theorem prs_pairs(p:Nat->Bool)(n:Nat):prs (sumN n (λx=>ind (p x)))=sumN n (λy=>sumN n (λx=>ind (decide (x<y)&&p x&&p y))):=by
 have:=pairs_two p n
 unfold prs
 rw [Int.mul_sub,Int.mul_one]
 omega
structure AdjN (n:Nat) (e:Nat->Nat->Bool):Prop where
 sym:∀x y,e x y=e y x
 irr:∀x,e x x=false
section
variable {n:Nat}{e:Nat->Nat->Bool}
def coN(n:Nat)(e:Nat->Nat->Bool)(v w:Nat):Int:=if v=w then 0 else sumN n λx=>ind (e v x&&e w x)
def quadN(n:Nat)(e:Nat->Nat->Bool)(v:Nat):Int:=sumN n λw=>prs (coN n e v w)
def cyc(e:Nat->Nat->Bool)(a b d c:Nat):Bool:=decide (b<d)&&decide (a<b)&&decide (a<c)&&(e a b&&e a d&&(e b c&&e d c))
theorem ind_d(p:Prop)[Decidable p]:ind (decide p)=if p then 1 else 0:=by unfold ind;by_cases h:p<;>simp [h]
theorem sum3(f:Nat->Nat->Nat->Int)(g:Nat->Nat->Nat->Int)(h:∀x y z,f x y z=g x y z):sumN n (λx=>sumN n λy=>sumN n λz=>f x y z)=sumN n (λx=>sumN n λy=>sumN n λz=>g x y z):=
 sumN_congr n λx _=>sumN_congr n λy _=>sumN_congr n λz _=>h x y z
theorem quad_point(h:AdjN n e)(v w x y:Nat):ind (decide (v≠w)&&(decide (x<y)&&(e v x&&e w x)&&(e v y&&e w y)))=ind (cyc e v x y w)+ind (cyc e w x y v)+ind (cyc e x v w y)+ind (cyc e x w v y):=by
 unfold cyc
 rw [h.sym x v,h.sym x w,h.sym y v,h.sym y w]
 cases e1:e v x with
 |false=>simp [ind]
 |true=>
  cases e2:e w x with
  |false=>simp [ind]
  |true=>
   cases e3:e v y with
   |false=>simp [ind]
   |true=>
    cases e4:e w y with
    |false=>simp [ind]
    |true=>
     have n1:v≠x:=λq=>by rw [q,h.irr] at e1;cases e1
     have n2:w≠x:=λq=>by rw [q,h.irr] at e2;cases e2
     have n3:v≠y:=λq=>by rw [q,h.irr] at e3;cases e3
     have n4:w≠y:=λq=>by rw [q,h.irr] at e4;cases e4
     simp only [Bool.and_true,←Bool.decide_and,ind_d]
     repeat' split
     all_goals omega
theorem quad_cyc(h:AdjN n e)(v:Nat):quadN n e v =
  sumN n (λb=>sumN n λd=>sumN n λc=>ind<|cyc e v b d c)+sumN n (λa=>sumN n λd=>sumN n λc=>ind<|cyc e a v d c) +
  sumN n (λa=>sumN n λb=>sumN n λc=>ind<|cyc e a b v c)+sumN n (λa=>sumN n λb=>sumN n λd=>ind<|cyc e a b d v):=by
 have h1:quadN n e v=sumN n λw=>sumN n λy=>sumN n λx=>ind (decide (v≠w)&&(decide (x<y)&&(e v x&&e w x)&&(e v y&&e w y))):=by
  unfold quadN
  refine sumN_congr n λw _=>?_
  unfold coN
  by_cases hw:v=w
  ·rw [if_pos hw]
   symm
   show _=prs 0
   refine (sumN_congr n λy _=>sumN_congr n λx _=>?_).trans ((sumN_congr n λ_ _=>sumN_zero n).trans (sumN_zero n))
   rw [decide_eq_false (λhh=>hh hw),Bool.false_and];rfl
  rw [if_neg hw,prs_pairs]
  refine sumN_congr n λy _=>sumN_congr n λx _=>?_
  rw [decide_eq_true hw,Bool.true_and]
 rw [h1,sum3 _ _ λw y x=>quad_point h v w x y]
 have h2:∀(A B C D:Nat->Nat->Nat->Int),sumN n (λw=>sumN n λy=>sumN n λx=>A w y x+B w y x+C w y x+D w y x) =
   sumN n (λw=>sumN n λy=>sumN n λx=>A w y x)+sumN n (λw=>sumN n λy=>sumN n λx=>B w y x)+sumN n (λw=>sumN n λy=>sumN n λx=>C w y x)+sumN n (λw=>sumN n λy=>sumN n λx=>D w y x):=λA B C D=>by
  simp only [sumN_add]
 rw [h2]
 -- w y x to b d c with b = x, d = y, c = w
 have r1:sumN n (λw=>sumN n λy=>sumN n λx=>ind<|cyc e v x y w)=sumN n (λb=>sumN n λd=>sumN n λc=>ind<|cyc e v b d c):=by
  rw [sumN_congr n λw _=>sumN_swap n n λy x=>ind<|cyc e v x y w,sumN_swap n n λw x=>sumN n λy=>ind<|cyc e v x y w]
  exact sumN_congr n λx _=>sumN_swap n n λw y=>ind<|cyc e v x y w
 have r2:sumN n (λw=>sumN n λy=>sumN n λx=>ind<|cyc e w x y v)=sumN n (λa=>sumN n λb=>sumN n λd=>ind<|cyc e a b d v):=
  sumN_congr n λw _=>sumN_swap n n λy x=>ind (cyc e w x y v)
 have r3:sumN n (λw=>sumN n λy=>sumN n λx=>ind<|cyc e x v w y)=sumN n (λa=>sumN n λd=>sumN n λc=>ind<|cyc e a v d c):=by
  rw [sumN_congr n λw _=>sumN_swap n n λy x=>ind<|cyc e x v w y]
  exact sumN_swap n n λw x=>sumN n λy=>ind<|cyc e x v w y
 have r4:sumN n (λw=>sumN n λy=>sumN n λx=>ind<|cyc e x w v y)=sumN n (λa=>sumN n λb=>sumN n λc=>ind<|cyc e a b v c):=by
  rw [sumN_congr n λw _=>sumN_swap n n λy x=>ind<|cyc e x w v y]
  exact sumN_swap n n λw x=>sumN n λy=>ind<|cyc e x w v y
 rw [r1,r2,r3,r4]
 omega
def quadS(n:Nat)(e:Nat->Nat->Bool):Int:=sumN n λa=>sumN n λb=>sumN n λd=>sumN n λc=>ind (cyc e a b d c)
theorem quad_four(h:AdjN n e):sumN n (quadN n e)=4*quadS n e:=by
 rw [sumN_congr n λv _=>quad_cyc h v]
 simp only [sumN_add]
 have Z:sumN n (λv=>sumN n λa=>sumN n λd=>sumN n λc=>ind<|cyc e a v d c)=quadS n e:=sumN_swap n n λv a=>sumN n λd=>sumN n λc=>ind (cyc e a v d c)
 have r3:sumN n (λv=>sumN n λa=>sumN n λb=>sumN n λc=>ind<|cyc e a b v c)=quadS n e:=by
  rw [sumN_swap n n λv a=>sumN n λb=>sumN n λc=>ind<|cyc e a b v c]
  exact sumN_congr n λa _=>sumN_swap n n λv b=>sumN n λc=>ind<|cyc e a b v c
 have M:sumN n (λv=>sumN n λa=>sumN n λb=>sumN n λd=>ind<|cyc e a b d v)=quadS n e:=by
  rw [sumN_swap n n λv a=>sumN n λb=>sumN n λd=>ind<|cyc e a b d v]
  refine sumN_congr n λa _=>?_
  rw [sumN_swap n n λv b=>sumN n λd=>ind<|cyc e a b d v]
  exact sumN_congr n λb _=>sumN_swap n n λv d=>ind<|cyc e a b d v
 rw [Z,r3,M]
 show quadS n e+_+_+_=_
 omega
end
end Go.Sl
namespace Go.Sl
variable{w x y:Nat}
section
variable {n:Nat}{e e':Nat->Nat->Bool}{u v:Nat}
structure MoreA (n:Nat) (e e':Nat->Nat->Bool) (u v:Nat):Prop where
 adj:AdjN n e
 lu:u<n
 lv:v<n
 ne:u≠v
 no:e u v=false
 is:∀x y,e' x y=(e x y||(decide (x=u/\y=v)||decide (x=v/\y=u)))
theorem prs_succ(k:Int):prs (k+1)=prs k+k:=by
 unfold prs
 have M:(k+1)*(k+1 - 1)=k*k+k:=by rw [Int.add_sub_cancel,Int.add_mul,Int.one_mul]
 have Z:k*(k - 1)=k*k - k:=by rw [Int.mul_sub,Int.mul_one]
 rw [M,Z];omega
theorem MoreA.oth(h:MoreA n e e' u v)(hu:x≠u\/y≠v)(hv:x≠v\/y≠u):e' x y=e x y:=by
 rw [h.is,decide_eq_false<|by omega,decide_eq_false<|by omega,Bool.or_false,Bool.or_false]
theorem MoreA.uv(h:MoreA n e e' u v):e' u v=true/\e' v u=true:=by
 constructor
 ·rw [h.is,decide_eq_true (show u=u/\v=v from ⟨rfl,rfl⟩)];simp
 rw [h.is,decide_eq_true (show v=v/\u=u from ⟨rfl,rfl⟩)];simp
theorem MoreA.no'(h:MoreA n e e' u v):e v u=false:=by rw [h.adj.sym];exact h.no
theorem MoreA.swap(h:MoreA n e e' u v):MoreA n e e' v u:=⟨h.adj,h.lv,h.lu,h.ne.symm,h.no',λx y=>by rw [h.is,Bool.or_comm (decide _)]⟩
theorem MoreA.adj'(h:MoreA n e e' u v):AdjN n e':=by
 refine ⟨λx y=>?_,λx=>?_⟩
 ·rw [h.is,h.is,h.adj.sym x y,Bool.or_comm<|decide<|x=u/\y=v]
  congr 2
  ·rw [decide_eq_decide];omega
  rw [decide_eq_decide];omega
 rw [h.is,h.adj.irr,decide_eq_false<|by have:=h.ne;omega,decide_eq_false<|by have:=h.ne;omega];rfl
theorem coN_sym(h:AdjN n e)(x y:Nat):coN n e x y=coN n e y x:=by
 unfold coN
 by_cases hq:x=y
 ·rw [if_pos hq,if_pos hq.symm]
 rw [if_neg hq,if_neg<|Ne.symm hq]
 exact sumN_congr n λz _=>by rw [Bool.and_comm]
theorem MoreA.co_u(h:MoreA n e e' u v)(Z:y≠u)(M:y≠v):coN n e' u y=coN n e u y+ind (e v y):=by
 unfold coN
 rw [if_neg (Ne.symm Z),if_neg (Ne.symm Z),sumN_upd h.lv (g:=λx=>ind (e u x&&e y x)) (h:=λx=>ind (e' u x&&e' y x)) λj _ hj=>by
  rw [h.oth (x:=u) (y:=j) (.inr hj) (.inl h.ne),h.oth (x:=y) (y:=j) (.inl Z) (.inl M)]]
 rw [h.uv.1,h.oth (x:=y) (y:=v) (.inl Z)<|.inl M,h.no,h.adj.sym y v,Bool.true_and,Bool.false_and,ind_f]
 omega
theorem MoreA.co_uv(h:MoreA n e e' u v):coN n e' u v=coN n e u v:=by
 unfold coN
 rw [if_neg h.ne,if_neg h.ne]
 refine sumN_congr n λz _=>?_
 by_cases hz:z=v
 ·subst hz;rw [h.adj'.irr,h.adj.irr];simp
 by_cases hz2:z=u
 ·subst hz2;rw [h.adj'.irr,h.adj.irr];simp
 rw [h.oth (x:=u) (y:=z) (.inr hz) (.inr hz2),h.oth (x:=v) (y:=z) (.inr hz)<|.inr hz2]
theorem MoreA.co_oth(h:MoreA n e e' u v)(M:x≠u)(Z:x≠v)(y1:y≠u)(y2:y≠v):coN n e' x y=coN n e x y:=by
 unfold coN
 by_cases hq:x=y
 ·rw [if_pos hq,if_pos hq]
 rw [if_neg hq,if_neg hq]
 exact sumN_congr n λz _=>by rw [h.oth (x:=x) (y:=z) (.inl M) (.inl Z),h.oth (x:=y) (y:=z) (.inl y1)<|.inl y2]
theorem prs_ind(k:Int)(p:Bool):prs (k+ind p)=prs k+if p=true then k else 0:=by
 cases p with
 |true=>rw [ind_t,prs_succ,if_pos rfl]
 |false=>rw [ind_f,Int.add_zero,if_neg<|by decide,Int.add_zero]
def ovr(e:Nat->Nat->Bool)(u v a b:Nat):Bool:=e u a&&e v b&&e a b
theorem ind_if(p:Bool)(q:Nat->Bool):sumN n (λz=>ind (p&&q z))=if p=true then sumN n (λz=>ind (q z)) else 0:=by
 cases p with
 |true=>rw [if_pos rfl];exact sumN_congr n λz _=>by rw [Bool.true_and]
 |false=>rw [if_neg (by decide)];exact sumN_eq_zero n λz _=>by rw [Bool.false_and];rfl
theorem MoreA.quad_u(h:MoreA n e e' u v):quadN n e' u=quadN n e u+sumN n λa=>sumN n λb=>ind (ovr e u v a b):=by
 have M:sumN n (λa=>sumN n λb=>ind<|ovr e u v a b)=sumN n λy=>if e v y=true then coN n e u y else 0:=by
  rw [sumN_swap n n λa b=>ind<|ovr e u v a b]
  refine sumN_congr n λb _=>?_
  have:(λa=>ind<|ovr e u v a b)=λa=>ind (e v b&&(e u a&&e b a)):=funext λa=>by
   unfold ovr;rw [h.adj.sym a b];congr 1
   cases e u a<;>cases e v b<;>cases e b a<;>rfl
  rw [this,ind_if (e v b) λa=>e u a&&e b a]
  by_cases hb:e v b=true
  ·have Z:u≠b:=λq=>by rw [←q,h.no'] at hb;cases hb
   rw [if_pos hb,if_pos hb];unfold coN;rw [if_neg Z]
  rw [if_neg hb,if_neg hb]
 rw [M]
 unfold quadN
 rw [←sumN_add]
 refine sumN_congr n λy _=>?_
 by_cases hu:y=u
 ·subst hu
  rw [if_neg (by rw [h.no'];decide)]
  unfold coN;rw [if_pos rfl,if_pos rfl];omega
 by_cases hv:y=v
 ·subst hv;rw [h.co_uv,h.adj.irr,if_neg<|by decide,Int.add_zero]
 rw [h.co_u hu hv,prs_ind]
theorem MoreA.quad_v(h:MoreA n e e' u v):quadN n e' v=quadN n e v+sumN n λa=>sumN n λb=>ind (ovr e u v a b):=by
 rw [h.swap.quad_u,sumN_swap n n λa b=>ind<|ovr e v u a b]
 congr 1
 refine sumN_congr n λa _=>sumN_congr n λb _=>?_
 unfold ovr
 rw [h.adj.sym b a,Bool.and_comm<|e v b]
theorem MoreA.quad_oth(h:MoreA n e e' u v)(M:w≠u)(Z:w≠v):quadN n e' w=quadN n e w+sumN n (λb=>ind (ovr e u v w b))+sumN n λa=>ind (ovr e u v a w):=by
 have ha:sumN n (λb=>ind<|ovr e u v w b)=if e u w=true then coN n e w v else 0:=by
  have:(λb=>ind<|ovr e u v w b)=λb=>ind (e u w&&(e w b&&e v b)):=funext λb=>by
   unfold ovr;congr 1
   cases e u w<;>cases e v b<;>cases e w b<;>rfl
  rw [this,ind_if (e u w) λb=>e w b&&e v b]
  unfold coN;rw [if_neg Z]
 have hb:sumN n (λa=>ind<|ovr e u v a w)=if e v w=true then coN n e w u else 0:=by
  have:(λa=>ind<|ovr e u v a w)=λa=>ind (e v w&&(e w a&&e u a)):=funext λa=>by
   unfold ovr;rw [h.adj.sym a w];congr 1
   cases e u a<;>cases e v w<;>cases e w a<;>rfl
  rw [this,ind_if (e v w) λa=>e w a&&e u a]
  unfold coN;rw [if_neg M]
 rw [ha,hb]
 have h1:quadN n e' w=sumN n λy=>prs (coN n e w y)+((if y=v then (if e u w=true then coN n e w v else 0) else 0)+(if y=u then (if e v w=true then coN n e w u else 0) else 0)):=by
  unfold quadN
  refine sumN_congr n λy _=>?_
  by_cases hu:y=u
  ·subst hu
   rw [if_neg h.ne,if_pos rfl,coN_sym h.adj' w y,h.co_u M Z,prs_ind,coN_sym h.adj y w];omega
  by_cases hv:y=v
  ·subst hv
   rw [if_pos rfl,if_neg hu,coN_sym h.adj' w y,h.swap.co_u Z M,prs_ind,coN_sym h.adj y w];omega
  rw [if_neg hv,if_neg hu,h.co_oth M Z hu hv];omega
 rw [h1,sumN_add,sumN_add,sumN_at h.lv,sumN_at h.lu]
 unfold quadN
 omega
def occ(n:Nat)(e:Nat->Nat->Bool)(u v w:Nat):Int:=sumN n λa=>sumN n λb=>if ovr e u v a b=true then (((ind (decide (u=w))+ind (decide (v=w)))+ind (decide (a=w)))+ind (decide (b=w))) else 0
theorem MoreA.quad(h:MoreA n e e' u v)(hw:w<n):quadN n e' w=quadN n e w+occ n e u v w:=by
 have hp:∀a b,ovr e u v a b=true->a≠u/\a≠v/\b≠u/\b≠v:=λa b Z=>by
  unfold ovr at Z
  rw [Bool.and_eq_true,Bool.and_eq_true] at Z
  obtain ⟨⟨h1,M⟩,_⟩:=Z
  exact ⟨λq=>(by rw [q,h.adj.irr] at h1;cases h1),λq=>(by rw [q,h.no] at h1;cases h1),λq=>(by rw [q,h.no'] at M;cases M),λq=>(by rw [q,h.adj.irr] at M;cases M)⟩
 by_cases w1:w=u
 ·subst w1
  rw [h.quad_u]
  congr 1
  refine sumN_congr n λa _=>sumN_congr n λb _=>?_
  by_cases Z:ovr e w v a b=true
  ·obtain ⟨q1,q2,q3,q4⟩:=hp a b Z
   rw [if_pos Z,Z,decide_eq_true rfl,decide_eq_false h.ne.symm,decide_eq_false q1,decide_eq_false q3];rfl
  rw [if_neg Z];unfold ind;rw [if_neg Z]
 by_cases w2:w=v
 ·subst w2
  rw [h.quad_v]
  congr 1
  refine sumN_congr n λa _=>sumN_congr n λb _=>?_
  by_cases Z:ovr e u w a b=true
  ·obtain ⟨q1,q2,q3,q4⟩:=hp a b Z
   rw [if_pos Z,Z,decide_eq_true rfl,decide_eq_false h.ne,decide_eq_false q2,decide_eq_false q4];rfl
  rw [if_neg Z];unfold ind;rw [if_neg Z]
 rw [h.quad_oth w1 w2,Int.add_assoc]
 congr 1
 have h1:occ n e u v w=sumN n (λa=>sumN n λb=>(if a=w then ind (ovr e u v a b) else 0)+(if b=w then ind (ovr e u v a b) else 0)):=by
  refine sumN_congr n λa _=>sumN_congr n λb _=>?_
  by_cases Z:ovr e u v a b=true
  ·rw [if_pos Z,Z,decide_eq_false<|Ne.symm w1,decide_eq_false<|Ne.symm w2,ind_d,ind_d,ind_t,ind_f];omega
  have h0:ind (ovr e u v a b)=0:=by unfold ind;rw [if_neg Z]
  rw [if_neg Z,h0];split<;>split<;>rfl
 rw [h1]
 have M:∀a,sumN n (λb=>(if a=w then ind (ovr e u v a b) else 0)+(if b=w then ind (ovr e u v a b) else 0))=(if a=w then sumN n (λb=>ind<|ovr e u v w b) else 0)+ind (ovr e u v a w):=λa=>by
  rw [sumN_add]
  congr 1
  ·by_cases ha:a=w
   ·subst ha;rw [if_pos rfl];exact sumN_congr n λb _=>if_pos rfl
   rw [if_neg ha];exact sumN_eq_zero n λb _=>if_neg ha
  rw [←sumN_at hw (ind<|ovr e u v a w)]
  refine sumN_congr n λb _=>?_
  by_cases hb:b=w
  ·subst hb;simp
  rw [if_neg hb,if_neg hb]
 rw [sumN_congr n λa _=>M a,sumN_add,sumN_at hw]
def ovrS(n:Nat)(e:Nat->Nat->Bool)(u v:Nat):Int:=sumN n λa=>sumN n λb=>ind (ovr e u v a b)
theorem occ_all(h:MoreA n e e' u v):sumN n (occ n e u v)=4*ovrS n e u v:=by
 have h1:∀a,a<n->∀b,b<n->sumN n (λw=>if ovr e u v a b=true then (((ind (decide<|u=w)+ind (decide<|v=w))+ind (decide<|a=w))+ind (decide<|b=w)) else 0)=4*ind (ovr e u v a b):=λa M b hb=>by
  have one:∀k,k<n->sumN n (λw=>ind<|decide<|k=w)=1:=λk hk=>by
   rw [←sumN_at hk 1]
   refine sumN_congr n λw _=>?_
   rw [ind_d]
   by_cases q:w=k
   ·rw [if_pos q.symm,if_pos q]
   rw [if_neg (Ne.symm q),if_neg q]
  by_cases hab:ovr e u v a b=true
  ·rw [sumN_congr n λw _=>if_pos hab,sumN_add,sumN_add,sumN_add,one u h.lu,one v h.lv,one a M,one b hb,hab];rfl
  rw [sumN_eq_zero n λw _=>if_neg hab];unfold ind;rw [if_neg hab];rfl
 have Z:∀(m:Nat) (g:Nat->Int),sumN m (λk=>4*g k)=4*sumN m g:=λm g=>by
  induction m with
  |zero=>rfl
  |succ m ih=>
   show sumN m _+4*g m=4*(sumN m g+g m)
   rw [ih];omega
 unfold occ
 rw [sumN_swap n n λw a=>sumN n λb=>if ovr e u v a b=true then (((ind (decide<|u=w)+ind (decide<|v=w))+ind (decide<|a=w))+ind (decide<|b=w)) else 0]
 rw [sumN_congr n λa M=>(sumN_swap n n λw b=>if ovr e u v a b=true then (((ind (decide<|u=w)+ind (decide<|v=w))+ind (decide<|a=w))+ind (decide<|b=w)) else 0).trans ((sumN_congr n λb hb=>h1 a M b hb).trans (Z n _))]
 rw [Z];rfl
theorem MoreA.all(h:MoreA n e e' u v):quadS n e'=quadS n e+ovrS n e u v:=by
 have M:=quad_four h.adj'
 have h2:=quad_four h.adj
 have h3:=occ_all h
 rw [sumN_congr n λw Z=>h.quad Z,sumN_add] at M
 omega
end
end Go.Sl
