/- A part of the proofs of statements of this seat: contracts of functions, and the plain laws that they lean on. No conditions. -/
import Derived.Test.YtoagcglbkeomgaaGreatDoorV33
import Derived.ProofKit
import Derived.OpenShut
import Derived.ChangeOld
import Derived.Below
import Derived.SizedLaws
import Derived.JoinedOf
import Derived.Deep.Slices
import Derived.Deep.Fields
set_option linter.unusedVariables false
set_option linter.unusedSimpArgs false
set_option linter.unusedSectionVars false
namespace Go.Sl
open Go.Proofs
set_option maxRecDepth 4000
set_option maxHeartbeats 8000000 in
theorem ax6{κ:Ctx}{I:List Item}{la:Option Addr}{ln lc:Nat}{ls:List Int}(hl:Sl κ I (.slice la ln lc) ls)(hT:F4 κ I 0 p6):eu Tryz.prog κ 9 [.slice la ln lc] I (λr J=>r = .bool true/\I=J):=by
 refine Ce1 Tryz.func9 C C ?_
 refine Ak<|Ga C<|Ar<|Ax<|Ak<|Gm C<|Gc0 (Ac c_ C C gc5) ?_
 refine Gr (Fi C)<|Ar<|Am C (λbp=>?_)<|λbp=>?_
 ·refine Ak (G.e (Ac c_ C C<|ax8<|A8 hT Ah) ?_)
  rintro _ _ ⟨_,_,⟨rfl,rfl⟩,rfl,rfl⟩
  exact Ga C<|Ar<|B3<|Ck<|Al C C I (by first|exact Ah|exact X8) ⟨rfl,rfl⟩
 refine Bc<|Ao<|Ak<|Gm C<|G.e (Ac c_ C C gc0) ?_
 rintro _ _ ⟨_,_,⟨ad,rfl,rfl⟩,rfl,rfl⟩
 show G Tryz.prog κ _ _ _ _ ([(17,pt ad),(16,.slice la ln lc),(14,.bool<|decide<|¬((ln:Int)<=500)),(13,.bool<|decide<|(ln:Int)<=500),(12,.slice la ln lc),(2,.bool false),(0,.slice la ln lc)]:Env) (e8 ad [.slice la ln lc,e7 0] 85::I)
 have b4:(0:Int)<=0:=Hl _
 refine Ga C<|Ar<|Ak<|Gm C<|G.e (Ac c_ C C<|dq6 ta1 (λ_=>Bg hl Ah) om) ?_
 rintro _ _ ⟨_,_,⟨⟨M,ah,ak,ao,an,k7,v8,Y9,ar⟩,⟨⟨rfl,hM⟩,ax⟩,rfl⟩,rfl,rfl⟩
 refine Dq (J:=e8 ad [.slice la ln lc,e7 ar] 85::(Y9++I)) (Cj<|C1 (A:=Y9) (L:=[e8 ad [.slice la ln lc,e7 ar] 85]) (T:=I)) ?_
 show G Tryz.prog κ _ _ _ _ ([(19,.agg (kx ah ak ao an M k7 v8).toArray),(18,pt ad),(3,pt ad),(17,pt ad),(16,.slice la ln lc),(14,.bool<|decide<|¬((ln:Int)<=500)),(13,.bool<|decide<|(ln:Int)<=500),(12,.slice la ln lc),(2,.bool false),(0,.slice la ln lc)]:Env) (e8 ad [.slice la ln lc,e7 ar] 85::(Y9++I))
 have ax:0<=ar:=ax
 have hM:bu4 κ M ah ak ao an k7 v8 Y9:=hM
 have ce:=hM.rn
 have b7:=hM.tm
 have a6:KpF κ (Y9++I) M k7 v8:=KpF.fit hM.f (C4<|Ho _ _)
 refine Ge1 (Aj H2 C) λaj=>Ge0 (Eff.sq H2) ?_
 refine Ar<|Ax<|Ak<|Gf bf7 C<|Gf U8 C<|Gl ef ?_
 refine Gr (Cx C C)<|Ar<|A1 (S3 23 4 3)<|Am C (λa9=>?_)<|λa9=>?_
 ·refine Ak (G.e (Ac c_ C C<|ax8<|A8 hT Ah) ?_)
  rintro _ _ ⟨_,_,⟨rfl,rfl⟩,rfl,rfl⟩
  exact Ga C<|Ar<|B3<|Ck<|Al C C I (by first|exact Ah|exact X8) ⟨rfl,rfl⟩
 refine Bc<|Ao<|Ak<|Gm C<|Gf T4 C<|Gf aj4 C<|Gl ef ?_
 refine G.e (Ac c_ C C<|Q1 ta1 (A4 hl) om om) ?_
 rintro _ _ ⟨_,_,⟨ai,ap,rfl,bw,b2,rfl⟩,rfl,rfl⟩
 show G Tryz.prog κ _ _ _ _ ([(29,e7 ai),(28,e7 M),(27,.pointer<|some ⟨aj,7,none⟩),(26,.pointer<|some ⟨aj,7,none⟩),(25,pt ad),(23,.bool<|decide<|ah=2),(4,pt aj),(3,pt ad)]:Env) (e8 aj (kx ah ak ao an M k7 v8) 47::e8 ad [.slice la ln lc,e7 ap] 85::(Y9++I))
 refine Ga C<|Ar<|Ak<|Gr (j8.lj H2) ?_
 refine Gf bf3 C<|Gl ef ?_
 refine Gr (Rad C C)<|Gm C<|Gr (Cl (cells:=[_,_,_,_,_,_,_]) s9 Tryz.underlying54 gk0 C C) ?_
 have bg:=F1 hM.ok.inv.val
 have cb:=bg.rng
 have bu:=q9 bg
 rw [G5] at bu
 have be:H7 M ⟨3,k7.tm+1,ai,0,0,0,0⟩:=dh6 om om om
 refine G.e (Ac c_ C C<|cz4 (T:=(Y9++I)) (k:=k7) (v:=v8) (xe:=(⟨3,k7.tm+1,ai,0,0,0,0⟩:Ev)) ta2 a6 hM.ok.v (by have:=hM.wl;omega) be (by show k7.tm<=k7.tm+1;omega)<|A8 hT Ah) ?_
 rintro _ _ ⟨_,_,⟨ab,O15,aa,Y17,bf,a7,rfl,aq,ae,bv,rfl⟩,rfl,rfl⟩
 refine Dq (J:=e8 aj (kx ah ak ao an M k7 v8) 47::e8 ad [.slice la ln lc,e7 ap] 85::(Y17++(Y9++I))) (Cj<|C1 (A:=Y17) (L:=[e8 aj (kx ah ak ao an M k7 v8) 47,e8 ad [.slice la ln lc,e7 ap] 85]) (T:=(Y9++I))) ?_
 show G Tryz.prog κ _ _ _ _ ([(37,.tuple #[.agg (kx ah ak ao an M ab aa).toArray,.slice bf O15.length a7,e7 0]),(36,.agg #[e7 3,e7<|k7.tm+1,e7 ai,e7 0,e7 0,e7 0,e7 0]),(35,e7 ai),(34,e7<|k7.tm+1),(33,e7<|k7.tm),(32,.pointer<|some ⟨aj,24,none⟩),(31,.agg (kx ah ak ao an M k7 v8).toArray),(5,e7 ai),(29,e7 ai),(28,e7 M),(27,.pointer<|some ⟨aj,7,none⟩),(26,.pointer<|some ⟨aj,7,none⟩),(25,pt ad),(23,.bool<|decide<|ah=2),(4,pt aj),(3,pt ad)]:Env) (e8 aj (kx ah ak ao an M k7 v8) 47::e8 ad [.slice la ln lc,e7 ap] 85::(Y17++(Y9++I)))
 refine Gm C ?_
 obtain ⟨a0,cd⟩:=hM.ok.v.next be (by show k7.tm<=k7.tm+1;omega) aq
 have a1:=aq.1
 rw [ct8 a9 hM.ok.cnt] at a1
 have au:ab.S=k7.S.filter (X7 ai):=(Prod.mk.inj a1).1.symm
 have ca:O15.length=1:=by rw [←(Prod.mk.inj a1).2];rfl
 have a3:=F1 a0.inv.val
 have b5:=G0 a3
 have b9:=G8 M (j5 ab.S)
 have b6:=F7 M (j5 ab.S)
 have a5:nbG M (j5 ab.S) ai=[]:=by rw [au];exact dx7 (by rw [←au];exact a0.inv.val)
 have a4:p8 M ai:=⟨by omega,by omega⟩
 have bq:=dm2 a3 a4 a5
 have bn:=dt6 a3 a4 a5
 have bj:=de3 a4 a5
 refine Gr (Bj C C)<|Gr (Bj C C)<|Gr (Bj C C)<|Ge1 (Aj H2 C) λaz=>Ge0 (Eff.sq H2) ?_
 refine Ga C<|Ga C<|Ar<|A1 (S5 8 7 6 5 4)<|Ax<|Ak<|Gm C<|Gr (Cb C C)<|Gm C<|A3 (d:=43) C (λbc=>?_)<|λbc=>?_
 ·exact absurd rfl bc
 refine e9 (Aq C)<|e9 (Bk Ad C)<|e9 (Cb C C)<|Gr (Bo C C)<|Gm C<|A3 (d:=48) C (λbt=>?_)<|λbt=>?_
 ·omega
 refine e9 (Af bf6 C)<|e9 (Af ao5 C)<|e9 (Bd U1) ?_
 refine e9 (Bk Ab C)<|e9 (Af T4 C)<|e9 (Af aj4 C)<|e9 (Bd ef) ?_
 refine e9 (Cb C C)<|Gr (Bo C C)<|Gm C<|A3 (d:=58) C (λbh=>?_)<|λbh=>?_
 ·omega
 refine e9 (Af bf5 C)<|e9 (Af ac9 C)<|e9 (Bd U1) ?_
 refine e9 (Bk Ab C)<|e9 (Af T4 C)<|e9 (Af aj4 C)<|e9 (Bd ef) ?_
 refine e9 (Cb C C)<|Gr (Bo C C)<|Gm C<|A3 (d:=68) C (λbr=>?_)<|λbr=>?_
 ·omega
 refine e9 (Af bf4 C)<|e9 (Af aj3 C)<|e9 (Bd U1) ?_
 refine e9 (Bk Ab C)<|e9 (Af T4 C)<|e9 (Af aj4 C)<|e9 (Bd ef) ?_
 refine e9 (Cb C C)<|Gr (Bo C C)<|Ar<|A1 (S4 77 6 5 4)<|Am C (λbo=>?_)<|λbo=>?_
 ·omega
 refine Bc<|Ao<|Ak<|Ga C<|Ar<|Ax<|Ak<|Gf T4 C<|Gf L6 C<|Gl ap3 ?_
 refine Gr (Bk A0 C)<|Gm C<|Ar<|A7<|B9 (σ:=Nat×Nat) (λs=>([(5,e7 ai),(6,pt az),(9,e7 ((s.2:Nat):Int)),(80,.slice v8.l.a k7.S.length v8.l.c),(81,e7 ((k7.S.length:Nat):Int)),(82,e7 ((s.1:Nat):Int))]:Env)) (λs=>e8 az (kx ah ak ao an M ab aa) 47::e8 aj (kx ah ak ao an M k7 v8) 47::e8 ad [.slice la ln lc,e7 ap] 85::(Y17++(Y9++I))) (λs=>(s.1<=k7.S.length)/\(s.2=((k7.S.take s.1).filter (X7 ai)).length)) (λs=>k7.S.length - s.1) (0,0) (show ((0:Nat)<=k7.S.length)/\((0:Nat)=((k7.S.take (0:Nat)).filter (X7 ai)).length) from ⟨om,rfl⟩) (cx2<|Aa Co<|cx2<|Aa Co Bb) (show Fit κ _ (e8 az (kx ah ak ao an M ab aa) 47::e8 aj (kx ah ak ao an M k7 v8) 47::e8 ad [.slice la ln lc,e7 ap] 85::(Y17++(Y9++I))) from Az) ?_
 rintro ⟨j,n⟩ hp
 dsimp only at hp ⊢
 obtain ⟨hj,hn⟩:=hp
 have cf:n<=j:=by rw [hn];exact G_ (Gs _ _) (by rw [Fp];omega)
 refine Ak<|Gr (Bl C C)<|Ar<|Ax<|Am C (λbk=>?_)<|λbk=>?_
 ·refine Bc (Ao<|Ax<|A7<|Ak<|Gr (A2 (α:=Lk) (xs:=k7.S) A0 J2 C C (KpF.fit a6<|B0 (κ:=κ)<|by repeat (first|exact Bf _|apply Be|apply Bn)).l om om)<|Gr (C6 (α:=Lk) (xs:=k7.S) J2 C (KpF.fit a6<|B0 (κ:=κ)<|by repeat (first|exact Bf _|apply Be|apply Bn)).l om om)<|Ge1 (Aj J2 C) λb8=>Ge0 (Fb J2) ?_)
  refine Ar<|Ak<|Gf aw6 C<|Gl ef ?_
  refine Gm C<|Gr (Cb C C)<|Gm C<|A3 (d:=90) C (λbm=>?_)<|λbm=>?_
  ·refine e9 (Af W9 C) (e9 (Bd ef) ?_)
   refine e9 (Aq C)<|e9 (Cb C C)<|Gr (Bz C C)<|Ar<|A1 (S8 95 11 5 6 9 80 81 82)<|Am C (λbi=>?_)<|λbi=>?_
   ·refine Ak (Gm C ?_)
    have bb:=du0 (xs:=k7.S) (j:=j) om om om
    refine Gr (Rad C C)<|Ga C<|Ar<|Ak<|Gf T4 C<|Gl2 V3 ?_
    refine Gf aw6 C<|Gl ef ?_
    refine Gf W9 C<|Gl ef ?_
    refine G.e (Ac c_ C C<|fg6 (nd:=M) (KpF.fit ae<|B0 (κ:=κ)<|by repeat (first|exact Bf _|apply Be|apply Bn)).l a0.inv.val (bb9 hM.ok.inv.val _<|Bp (xs:=k7.S) (i:=(j:Int)) om om).2.1 ⟨_,by rw [au];exact bb.2,rfl,rfl⟩) ?_
    rintro _ _ ⟨_,_,⟨cc,rfl,b3,rfl⟩,rfl,rfl⟩
    refine Gr (Bl C C)<|Ar<|A1 (S7 105 9 5 6 80 81 82)<|Am C (λa8=>?_)<|λa8=>?_
    ·omega
    exact Bc<|Av<|Ao<|A6<|Gr (Rad C C)<|Gm C<|Bq<|Bt ((j+1),(n+1))<|by dsimp only;exact ⟨om,(by rw [hn,bb.1])⟩
   exact Bc<|Av<|Ao<|A6<|Gr (Rad C C)<|Gm C<|Bq<|Bt ((j+1),(n))<|by dsimp only;exact ⟨om,(by rw [hn,dc6 om om])⟩
  exact eb<|eb<|eb<|eb<|Gr (Bo C C)<|Ar<|A1 (S8 95 11 5 6 9 80 81 82)<|W.no C<|Bc<|Av<|Ao<|A6<|Gr (Rad C C)<|Gm C<|Bq<|Bt ((j+1),(n))<|by dsimp only;exact ⟨om,(by rw [hn,dc6 om om])⟩
 refine Ci<|Aw<|Aw<|Bi<|Ao<|Ak<|Gf bf6 C ?_
 have cg:n=ab.S.length:=by rw [hn,show k7.S.take j=k7.S from Fv om,au]
 refine Gf ao5 C<|Gl U1 ?_
 refine Gm C<|Gr (A2 (α:=Int) (xs:=j9 M (j5 ab.S)) Ab ef C C (KpF.fit ae<|B0 (κ:=κ)<|by repeat (first|exact Bf _|apply Be|apply Bn)).p.n1 om om)<|Gr (B6 (xs:=j9 M (j5 ab.S)) ef C (KpF.fit ae<|B0 (κ:=κ)<|by repeat (first|exact Bf _|apply Be|apply Bn)).p.n1 om om)<|Gr (Cx C C)<|Gm C<|A3 (d:=114) C (λav=>?_)<|λav=>?_
 ·refine e9 (Af bf5 C) (e9 (Af ac9 C)<|e9 (Bd U1) ?_)
  refine e9 (Aq C)<|e9 (A2 (α:=Int) (xs:=H3 M (j5 ab.S)) Ab ef C C (KpF.fit ae<|B0 (κ:=κ)<|by repeat (first|exact Bf _|apply Be|apply Bn)).p.n3 om om)<|e9 (B6 (xs:=H3 M (j5 ab.S)) ef C (KpF.fit ae<|B0 (κ:=κ)<|by repeat (first|exact Bf _|apply Be|apply Bn)).p.n3 om om)<|e9 (Cx C C)<|Gr (Bz C C)<|Gm C<|A3 (d:=123) C (λay=>?_)<|λay=>?_
  ·refine e9 (Af bf4 C) (e9 (Af aj3 C)<|e9 (Bd U1) ?_)
   refine e9 (Aq C)<|e9 (A2 (α:=Int) (xs:=r8 M (j5 ab.S)) Ab ef C C (KpF.fit ae<|B0 (κ:=κ)<|by repeat (first|exact Bf _|apply Be|apply Bn)).p.n4 om om)<|e9 (B6 (xs:=r8 M (j5 ab.S)) ef C (KpF.fit ae<|B0 (κ:=κ)<|by repeat (first|exact Bf _|apply Be|apply Bn)).p.n4 om om)<|e9 (Cx C C)<|Gr (Bz C C)<|Gm C<|A3 (d:=132) C (λaw=>?_)<|λaw=>?_
   ·refine e9 (Af T4 C) (e9 (Af L6 C)<|e9 (Bd ap3) ?_)
    refine e9 (Bk A0 C)<|e9 (Aq C)<|e9 (Cx C C)<|Gr (Bz C C)<|Gm C<|A3 (d:=140) C (λba=>?_)<|λba=>?_
    ·refine Ds (Cn C C C) (Ac c_ C C<|ax8<|A8 hT Ah) ?_
     rintro _ _ ⟨_,_,⟨rfl,rfl⟩,rfl,rfl⟩
     exact Gr (Bz C C)<|Ga C<|Ar<|A1 (S1 2)<|B3<|Al C C I (by first|exact Ah|exact X8) ⟨rfl,rfl⟩
    omega
   exact absurd bj aw
  exact absurd bn ay
 exact absurd bq av
end Go.Sl
namespace Go.Sl
open Go.ChangeShapes Go.WideShapes Go.ChangeAt Go.RowKit Go.Deep
variable{v:Value}{e:TypeId}{a:Addr}
section
variable {κ:Ctx}{w w':World}{I:List Item}
theorem ck7(hs:Sep κ w' I)(hm:old w.heap.size w∈I){b o:Nat}{u:Value}(M:w.cell? ⟨b,o,none⟩=some u):w'.cell? ⟨b,o,none⟩=some u:=by
 have aa:∀k,k<w.heap.size->w'.heap[k]? = w.heap[k]? :=(hs.ok _ hm).1
 have hb:b<w.heap.size:=by
  refine Nat.not_le.1 λh=>?_
  simp [World.cell?,Array.getElem?_eq_none h] at M
 have:=aa b hb
 simp only [World.cell?,this] at M ⊢
 exact M
def SlW{α:Type}[Enc α](w:World)(v:Value)(xs:List α):Prop:=da7 w (Enc.sz α) v xs.length (cells xs)
theorem SlW.sl{α:Type}[Enc α]{xs:List α}(h:SlW w v xs)(M:old w.heap.size w∈I):Sl κ I v xs:=λw' hs=>by
 obtain ⟨a,cap,hv,h1,h2,h3,h4⟩:=h
 refine ⟨a,cap,hv,h1,h2,h3,λhc=>?_⟩
 obtain ⟨b,off,ha,hr⟩:=h4 hc
 exact ⟨b,off,ha,λj u hj=>ck7 hs M<|hr j u hj⟩
end
section
variable {P:Program}{w:World}{r:Reach}{b0:Nat}{t:TypeId}{H:Type}{enc:TypeId×Value->H}{base:Nat}{spare:Nat->Bool}{held:Bool}
theorem dc9{len cap:Nat}(M:P.underlying t=some (.slice e))(h:Cell.okWide P w r b0 t (.slice (some a) len cap)):a.spot=none:=by
 simp only [Cell.okWide,Cell.ok,M] at h
 exact h.2.2.2.1
theorem gc3{n:Int}(h:(Lit.int .i64 n).wf=true):InR n:=by
 simp only [Lit.wf,Hc,Gn] at h
 exact h
def fs8(P:Program)(t:TypeId)(d:DataW H):Prop:=∀n∈d.weights P t,n<=reachBytes
theorem dh4{M:List TypeId}{ds:List (DataW H)}(h:(DataW.weightsEach P M ds).all (· <= reachBytes)=true){j:Nat}{d:DataW H}(ht:M[j]? = some t)(hd:ds[j]? = some d):fs8 P t d:=λn hn=>by
 have:=List.all_eq_true.1 h _ (DataW.weights_mem_each ht hd n hn)
 simpa using this
theorem ce5{es sp:List (DataW H)}(ht:P.underlying t=some (.slice e))(h:fs8 P t (.slice es sp)):es.length*P.bytesOf e<=140737488351232:=by
 have M:=h ((es.length+sp.length)*P.bytesOf e) (by simp [DataW.weights,ht])
 have h2:es.length*P.bytesOf e<=(es.length+sp.length)*P.bytesOf e:=Hi _ (by omega)
 simp only [reachBytes] at M
 omega
theorem cp8(h:a.spot=none):a=⟨a.block,a.off,none⟩:=by cases a;simp_all
theorem fo7{fuel:Nat}{x:DataW H×List MemPlace}(ht:P.underlying t=some (.slice e))(he:P.underlying e=some (.int .i64))(hc:P.cellsOf e=1)
  (hv:Cell.okWide P w r b0 t v) (h:DataW.trod enc P w base spare held fuel t [v]=some x) (hw:fs8 P t x.1):∃(a:Option Addr) (c:Nat) (xs:List Int),v = .slice a xs.length c/\SlW w (.slice a xs.length c) xs/\(∀n∈xs,InR n)/\xs.length*P.bytesOf e<=140737488351232:=by
 rcases open_ints ht he hc h with ⟨aa,_⟩|⟨a,l,c,zs,aa,_,hl,hm,hz,hx,M,ae⟩
 ·obtain rfl:v = .slice none 0 0:=by simpa using aa
  exact ⟨none,0,[],rfl,⟨none,0,rfl,by simp [cells],Gd _,by simp,λh=>by omega⟩,by simp,by simp⟩
 obtain rfl:v = .slice (some a) l c:=by simpa using aa
 have ad:=dc9 ht hv
 have ah:l<=zs.length:=by rw [hz];split<;>omega
 have ab:(zs.take l).length=l:=by rw [Fp];omega
 refine ⟨some a,c,zs.take l,by rw [ab],⟨some a,c,rfl,r9 _,by rw [ab];exact hl,hm,λaj=>⟨a.block,a.off,by rw [←cp8 ad],λj u hj=>?_⟩⟩,λn hn=>gc3 (ae n (Hw hn)),by
  rw [hx] at hw
  have:=ce5 ht hw
  simpa [lits] using this⟩
 have ai:j<l:=by
  have:=(Gw.1 hj).1
  rw [r9,ab] at this
  have e1:Enc.sz Int=1:=rfl
  rw [e1] at this;omega
 have h1:=W1 (zs.take l) j 0 (by omega) (by decide)
 have e1:j*Enc.sz Int+0=j:=by show j*1+0=j;omega
 rw [e1] at h1
 rw [h1] at hj
 have h2:=M j (by omega)
 rw [cp8 ad,G9] at h2
 have h3:u=e7 (zs.getD j 0):=by
  have h4:some (e7<|(zs.take l)[j]'(by omega))=some u:=hj
  simp only [Jr] at h4
  rw [←h4]
  simp [Hq,H_ (show j<zs.length by omega)]
 rw [h3];exact h2
theorem fc2{d:DataW H}{ps:List MemPlace}(M:P.underlying t=some (.slice e))(hv:Value.okWide P w r b0 t v)(h:DataW.Trod enc P w base spare held t v d ps):Cell.okWide P w r b0 t v/\∃fuel,DataW.trod enc P w base spare held fuel t [v]=some (d,ps):=by
 obtain ⟨a,len,cap,rfl⟩:=okWide_slice M hv
 simp only [Value.okWide,M] at hv
 obtain ⟨fuel,hf⟩:=h
 exact ⟨hv,fuel,by simpa [Value.cells] using hf⟩
theorem di4{P:Program}{f:FuncId}{M:Func}{s:ChangeSpec}{c:OpenClaim}(h1:(c.wf (OpenSpec.ofChange s))=true)(h2:(laidOutB P)=true)(h3:(mapsRowed P)=true)(h4:(M.params.all (P.readableRec ·))=true)(h5:(namedTie P c.named s.vars)=true)(h6:((c.stops==[]))=true)(h7:((P.stops==[]))=true)(h8:((c.knobs==[]))=true)(h9:((P.stopKnobs==[]))=true)(az:((c.inPlace==P.inPlace f))=true)(aq:((c.unfollowed==P.unfollowed f))=true)(ar:((c.recurses==P.recurses f))=true)(an:((c.named==P.varsNamed f))=true)(ak:((c.maps==(M.params.toList++s.plain.varTypes P).any (P.mapsRec ·)))=true)(ah:((c.ifaces==(M.params.toList++s.plain.varTypes P).any (P.ifacesRec ·)))=true)(au:((c.mapsOut==P.mapsAmong M.resultTypes.toList))=true)(aa:((c.loops==(M.params.toList++s.plain.varTypes P).any (P.loopsFrom ·)))=true)(ab:((c.wideKeys==(M.params.toList++s.plain.varTypes P++M.resultTypes.toList).any (P.wideKeysFrom ·)))=true)(ai:(s.vars.all (P.varReadable ·))=true)(ae:(M.resultTypes.all (λt=>P.readableRec t&&decide (t<P.types.size)))=true)(ax:((c.ifacesOut==M.resultTypes.toList.any (P.ifacesRec ·)))=true)(a1:((c.loopsOut==M.resultTypes.toList.any (P.loopsFrom ·)))=true)(ay:((c.plainKeys==P.plainKeys))=true)(a0:(c.shortTexts.isNone)=true)(ao:(P.stopsHeard)=true)(aw:(P.mayEnter)=true)(ap:((c.lifted==P.liftsFinal))=true)(a4:((P.make==some c.make))=true)(av:((c.kinds==(if c.domain.isEmpty then [] else M.params.toList.map λt=>match P.underlying t with |some (.int k)=>some k|_=>none)))=true)(a3:((c.pinned==c.pinnedBy))=true)(ad:((c.veiled==(M.params.toList++s.plain.varTypes P++M.resultTypes.toList).any (P.veiledRec ·)))=true)(aj:(c.veiledFits P M.params.toList (M.params.toList++s.plain.varTypes P++M.resultTypes.toList))=true):joinedFacts P f M s c=true:=by
 unfold joinedFacts
 exact (Gh.2 ⟨(Gh.2 ⟨(Gh.2 ⟨(Gh.2 ⟨(Gh.2 ⟨(Gh.2 ⟨(Gh.2 ⟨(Gh.2 ⟨(Gh.2 ⟨(Gh.2 ⟨(Gh.2 ⟨(Gh.2 ⟨(Gh.2 ⟨(Gh.2 ⟨(Gh.2 ⟨(Gh.2 ⟨(Gh.2 ⟨(Gh.2 ⟨(Gh.2 ⟨(Gh.2 ⟨(Gh.2 ⟨(Gh.2 ⟨(Gh.2 ⟨(Gh.2 ⟨(Gh.2 ⟨(Gh.2 ⟨(Gh.2 ⟨(Gh.2 ⟨(Gh.2 ⟨(Gh.2 ⟨(Gh.2 ⟨h1,h2⟩),h3⟩),h4⟩),h5⟩),h6⟩),h7⟩),h8⟩),h9⟩),az⟩),aq⟩),ar⟩),an⟩),ak⟩),ah⟩),au⟩),aa⟩),ab⟩),ai⟩),ae⟩),ax⟩),a1⟩),ay⟩),a0⟩),ao⟩),aw⟩),ap⟩),a4⟩),av⟩),a3⟩),ad⟩),aj⟩)
theorem cg4{f:FuncId}{M:List Value}(h:eu P ⟨w.os,w.tape,w.output,w.drawn⟩ f M [old w.heap.size w] λr J=>r = .bool true/\[old w.heap.size w]=J) :
  Calls P f M.toArray w λe w'=>e = .returned (.bool true)/\Below w.heap.size w w':=
 (h w<|Sep.begin w).mono λe w' ⟨v,J,he,⟨hv,hJ⟩,hs⟩=>by
  subst hv hJ
  exact ⟨he,hs.below A_⟩
end
end Go.Sl
