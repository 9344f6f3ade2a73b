/- A part of the proofs of statements of this seat: contracts of functions, and the plain laws that they lean on. No conditions. -/
import Derived.Test.YtoagcglbkeomgaaGreatDoorK27
import Derived.ProofKit
import Derived.OpenShut
import Derived.ChangeOld
import Derived.Below
import Derived.SizedLaws
import Derived.JoinedOf
import Derived.Deep.Slices
import Derived.Deep.Fields
set_option linter.unusedVariables false
set_option linter.unusedSimpArgs false
set_option linter.unusedSectionVars false
namespace Go.Sl
open Go.Proofs
set_option maxRecDepth 4000
set_option maxHeartbeats 8000000 in
theorem EngineKeeps_walk{κ:Ctx}{I:List Item}{la:Option Addr}{ln lc:Nat}{ls:List Int}(hl:Sl κ I (.slice la ln lc) ls)(m0:Int)(bh:0<=m0/\m0<256)(hT:TabRd κ I 0 tzCells):eu Tryz.prog κ 3 [.slice la ln lc,.int .u8 m0] I (λr J=>r = .bool true/\I=J):=by
 have b4:0<=Int.tmod m0 5/\Int.tmod m0 5<5:=by rw [Int.tmod_eq_emod_of_nonneg bh.1];omega
 refine Ce2 Tryz.func3 C C ?_
 refine Af<|Ga C<|Ac<|Aq<|Af<|Gm C<|Gc0 (Ak c_ C C Few_ok) ?_
 refine Gr (Dk C)<|Ac<|A5 C (λbb=>?_)<|λbb=>?_
 ·refine Af (G.e (Ak c_ C C<|Awake41_ok<|Bm hT Ay) ?_)
  rintro _ _ ⟨_,_,⟨rfl,rfl⟩,rfl,rfl⟩
  exact Ga C<|Ac<|Az<|Ap<|A1 C C I (by first|exact Ay|exact FitW) ⟨rfl,rfl⟩
 refine Av<|Ah<|Af<|Gm C<|G.e (Ak c_ C C New_ok) ?_
 rintro _ _ ⟨_,_,⟨ao,rfl,rfl⟩,rfl,rfl⟩
 have bw:(0:Int)<=0:=Int.le_refl _
 refine Ga C<|Ac<|Af<|Gm C<|G.e (Ak c_ C C<|Next_ok (by repeat (first|exact AtF.head _ _|apply AtF.tail)) (A8 hl) om om) ?_
 rintro _ _ ⟨_,_,⟨M,i3,rfl,b3,hi3,rfl⟩,rfl,rfl⟩
 refine Gr (Rad C C)<|Ga C<|Ac<|Af<|Gm C<|Gm C<|Gr (Runs.rem C C om)<|Gr (Runs.convI Ej Ce C<|by unfold InR;omega)<|Gm C<|G.e (Ak c_ C C<|MkWindowV_at (by repeat (first|exact AtF.head _ _|apply AtF.tail)) (λ_=>Bz hl Ay) om  ) ?_
 rintro _ _ ⟨_,_,⟨⟨ah,ad,ae,i7⟩,⟨⟨rfl,ab⟩,a6⟩,rfl⟩,rfl,rfl⟩
 have a6:0<=i7:=a6
 have ab:checkW ah ad ae=0:=ab
 refine G.e (Ak c_ C C<|KOpen_ok (nd:=2+M) (bd:=Int.tmod m0 5) I om ab om<|Bm hT Ay) ?_
 rintro _ _ ⟨_,_,⟨bg,Y9,rfl,a7,rfl⟩,rfl,rfl⟩
 refine Eh (J:=e8 ao [.slice la ln lc,e7 i7] 85::(Y9++I)) (C2<|Dl (A:=Y9) (L:=[e8 ao [.slice la ln lc,e7 i7] 85]) (T:=I)) ?_
 refine Gm C<|Gr (Am C C)<|Gr (Am C C)<|Ge1 (A3 ty47 C) λau=>Ge0 (Eff.sq ty47) ?_
 refine Ga C<|Ac<|Ao (S4 8 7 6 5 C C C C)<|Aq<|Af<|Gm C<|Gr (Bo C C)<|Ac<|A5 C (λa9=>?_)<|λa9=>?_
 ·exact absurd a9 dc
 refine Av<|Ah<|Aq<|Af<|Gm C<|Gm C<|G.e (Ak c_ C C<|MkMixed_at (by repeat (first|exact AtF.head _ _|apply AtF.tail)) (λ_=>Bz hl Ay) om  om om) ?_
 rintro _ _ ⟨_,_,⟨⟨an,ak,Z,av⟩,⟨⟨rfl,ai⟩,ax⟩,rfl⟩,rfl,rfl⟩
 have ax:0<=av:=ax
 dsimp only at ai
 refine Gr (Bh A0 C)<|Gm C<|Ac<|Aw<|Bu (σ:=Nat×EnS×KpV×(List Item)) (λs=>([(7,pt au),(47,.slice an Z.length ak),(48,e7 ((Z.length:Nat):Int)),(49,e7 ((s.1:Nat):Int))]:Env)) (λs=>vk 54 an ak Z::e8 au (kx ah ad ae (Int.tmod m0 5) (2+M) s.2.1 s.2.2.1) 47::e8 ao [.slice la ln lc,e7 av] 85::(s.2.2.2++I)) (λs=>(s.1<=Z.length)/\(EnOk (2+M) ah ad ae (Int.tmod m0 5) s.2.1)/\(KpF κ (s.2.2.2++I) (2+M) s.2.1 s.2.2.1)/\(s.2.1.b.ws.length<=s.1)) (λs=>Z.length - s.1) (0,(⟨⟨-1, -1,[]⟩,[],0⟩:EnS),bg,Y9) ⟨om,(EnOk.open_ om ab om),a7,(by show (0:Nat)<=0;omega)⟩ (Aa C<|Aa C<|Aa C<|Aa B2 Bi) Bl ?_
 rintro ⟨i,k,v,Y⟩ hp
 dsimp only at hp ⊢
 obtain ⟨hi,hK,hF,br⟩:=hp
 refine Af<|Gr (A4 C C)<|Ac<|Aq<|A5 C (λbe=>?_)<|λbe=>?_
 ·refine Av (Ah<|Aq<|Aw<|Af<|Gr (Ax (α:=Ev) (xs:=Z) A0 ty54 C C Bf om om)<|Gr (Bx (α:=Ev) (xs:=Z) ty54 C Bf om om) ?_)
  have a4:=(ai.1 _<|B1 (xs:=Z) (i:=(i:Int)) om om).1
  generalize hxe:e_ Z i=xe at a4 ⊢
  refine Ge1 (A3 ty54 C) λa8=>Ge0 (Es7_7 ty54) ?_
  refine Ac<|Af<|Gr (Runs.lq ty47) ?_
  refine Gl7 ty54 ?_
  refine G.e (Ak c_ C C<|FeedA_ok (T:=(Y++I)) (k:=k) (v:=v) (by repeat (first|exact hH|exact Ci _|apply Ch|apply C9|apply Has.app)) hF hK om a4<|Bm hT Ay) ?_
  rintro _ _ ⟨_,_,(⟨aj,rfl,rfl⟩|⟨aj,aw,Y17,bm,bk,rfl,aa,bc,rfl⟩),rfl,rfl⟩
  ·skip
   refine Gm C<|Gr (Am C C)<|Gr (Am C C)<|Gr (Am C C)<|Ge1 (A3 ty47 C) λb2=>Ge0 (Eff.sq ty47) ?_
   refine Ga C<|Ga C<|Ac<|Ao (S6 13 11 7 47 48 49 C C C C C C)<|Aq<|Af<|Gm C<|Gr (Bw C C)<|Ac<|A5 C (λaq=>?_)<|λaq=>?_
   ·exact Bs<|Al<|A2<|Ah<|Ar<|Gr (Rad C C)<|Gm C<|Bj<|B3 ((i+1),(k),(v),(Y))<|by dsimp only;exact ⟨om,hK,hF,om⟩
   exact absurd dc aq
  refine Eh (J:=e8 a8 (ez xe) 54::vk 54 an ak Z::e8 au (kx ah ad ae (Int.tmod m0 5) (2+M) k v) 47::e8 ao [.slice la ln lc,e7 av] 85::(Y17++(Y++I))) (C2<|Dl (A:=Y17) (L:=[e8 a8 (ez xe) 54,vk 54 an ak Z,e8 au (kx ah ad ae (Int.tmod m0 5) (2+M) k v) 47,e8 ao [.slice la ln lc,e7 av] 85]) (T:=(Y++I))) ?_
  refine Gm C<|Gr (Am C C)<|Gr (Am C C)<|Gr (Am C C)<|Ge1 (A3 ty47 C) λbu=>Ge0 (Eff.sq ty47) ?_
  refine Ga C<|Ga C<|Ac<|Ao (S6 13 11 7 47 48 49 C C C C C C)<|Aq<|Af<|Gm C<|Gr (Bw C C)<|Ac<|A5 C (λaq=>?_)<|λaq=>?_
  ·exact absurd aq dc
  refine Av<|Ah<|Af<|Gf fld47_2 C ?_
  have ar:=hK.feed a4 aj
  have ap:=edgesK_ok ar.inv.val
  have bf:=edges_le ap
  have ba:=bf
  rw [edgesK_len] at ba
  have bt:=feed_wlen (kd:=ah) (wd:=ad) (mo:=ae) (bd:=(Int.tmod m0 5)) k xe
  refine Gl2 ty35 ?_
  refine G.e (Ak c_ C C<|Graph5_ok (nd:=(2+M)) (KpF.fit aa<|Db (κ:=κ)<|by repeat (first|exact Ci _|apply Ch|apply Has.app)).l ar.inv.val om) ?_
  rintro _ _ ⟨_,_,⟨bo,bi,rfl,rfl⟩,rfl,rfl⟩
  refine Gm C<|Gr (Am C C)<|Gr (Am C C)<|Ge1 (A3 ty38 C) λbv=>Ge0 (Cz ty38) ?_
  refine Ga C<|Ac<|Ao (S7 14 13 11 7 47 48 49 C C C C C C C)<|Af<|Gl2 ty38 ?_
  refine G.e (Ak c_ C C<|Numbers10_ok (nd:=(2+M)) Bf ap om om) ?_
  rintro _ _ ⟨_,_,⟨bn,bj,rfl,rfl⟩,rfl,rfl⟩
  refine Gm C<|Gr (Am C C)<|Gr (Am C C)<|Ga C<|Ga C<|Ac<|Ao (S8 16 14 13 11 7 47 48 49 C C C C C C C C)<|Af<|Gl2 ty38 ?_
  refine Gc2 (Ak c_ C C<|Numbers12_ok (nd:=(2+M)) Bf ap om) λbp bq=>?_
  refine Gm C<|Gr (Am C C)<|Gr (Am C C)<|Ga C<|Ga C<|Ac<|Ao (S9 18 16 14 13 11 7 47 48 49 C C C C C C C C C)<|Af<|Gl2 ty38 ?_
  refine G.e (Ak c_ C C<|Count29_ok (nd:=(2+M)) Bf ap) ?_
  rintro _ _ ⟨_,_,⟨rfl,rfl⟩,rfl,rfl⟩
  refine Gm C<|Gr (Am C C)<|Gr (Am C C)<|Ga C<|Ga C<|Ac<|Ao (S10 20 18 16 14 13 11 7 47 48 49 C C C C C C C C C C)<|Af<|Gl2 ty38 ?_
  refine Gc0 (Ak c_ C C<|Count30_ok (nd:=(2+M)) Bf ap) ?_
  refine Gm C<|Gr (Am C C)<|Gr (Am C C)<|Ga C<|Ga C<|Ac<|Ao (S11 22 20 18 16 14 13 11 7 47 48 49 C C C C C C C C C C C)<|Aq<|Af<|Gm C<|Gr (Bo C C)<|Gm C<|Bt (d:=90) C (λa5=>?_)<|λa5=>?_
  ·exact absurd rfl a5
  refine e9 (Runs.lq ty47) ?_
  refine Ew (C5 C C C) (Ak c_ C C<|KValid_ok (k:=(k.feed ah ad ae (Int.tmod m0 5) xe)) (v:=aw) (KpF.fit aa<|Db (κ:=κ)<|by repeat (first|exact Ci _|apply Ch|apply Has.app)) ar om<|Bm hT Ay) ?_
  rintro _ _ ⟨_,_,⟨rfl,rfl⟩,rfl,rfl⟩
  refine e9 (Co C)<|Gr (A6 C C)<|Gm C<|e9 (Ad fld47_3 C)<|e9 (Ad fld40_0 C)<|e9 (Be (vs:=[_,_]) ty38) ?_
  refine e9 (Be (vs:=[_,_]) ty38) ?_
  refine Ew (C5 C C C) (Ak c_ C C<|Same03_ok (KpF.fit aa<|Db (κ:=κ)<|by repeat (first|exact Ci _|apply Ch|apply Has.app)).p.e1 Bf) ?_
  rintro _ _ ⟨_,_,⟨rfl,rfl⟩,rfl,rfl⟩
  refine e9 (Dk C)<|Gr (A6 C C)<|Gm C<|Bt (d:=103) C (λay=>?_)<|λay=>?_
  ·exact absurd ⟨rfl,rfl⟩ ay
  refine e9 (Ad fld47_3 C)<|e9 (Ad fld40_1 C)<|e9 (Bb ty22) ?_
  refine e9 (Ai C)<|Ew (C5 C C C) (Ak c_ C C<|Cmp_ok (KpF.fit aa<|Db (κ:=κ)<|by repeat (first|exact Ci _|apply Ch|apply Has.app)).p.n1 Bf) ?_
  rintro _ _ ⟨_,_,⟨rfl,rfl⟩,rfl,rfl⟩
  refine e9 (Bo C C)<|Gr (A6 C C)<|Gm C<|Bt (d:=111) C (λa0=>?_)<|λa0=>?_
  ·exact absurd (cmpL_self _) a0
  refine e9 (Ad fld47_4 C)<|e9 (Ad fld41_1 C)<|e9 (Bb ty22) ?_
  refine e9 (Ai C)<|Ew (C5 C C C) (Ak c_ C C<|Cmp_ok (KpF.fit aa<|Db (κ:=κ)<|by repeat (first|exact Ci _|apply Ch|apply Has.app)).p.n2 Bf) ?_
  rintro _ _ ⟨_,_,⟨rfl,rfl⟩,rfl,rfl⟩
  refine e9 (Bo C C)<|Gr (A6 C C)<|Gm C<|Bt (d:=119) C (λa1=>?_)<|λa1=>?_
  ·exact absurd (cmpL_self _) a1
  refine e9 (Ad fld47_5 C)<|e9 (Ad fld43_1 C)<|e9 (Bb ef) ?_
  refine e9 (Ai C)<|e9 (Bo C C)<|Gr (A6 C C)<|Gm C<|Bt (d:=126) C (λaz=>?_)<|λaz=>?_
  ·exact absurd rfl az
  refine e9 (Ad fld47_6 C)<|e9 (Ad fld45_2 C)<|e9 (Bb ef) ?_
  refine e9 (Ai C)<|e9 (Bo C C)<|Gr (A6 C C)<|Ac<|Ao (S6 132 11 7 47 48 49 C C C C C C)<|A5 C (λa3=>?_)<|λa3=>?_
  ·exact absurd rfl a3
  refine Av<|Ah<|Ar<|Gr (Runs.lq ty47) ?_
  refine Ge0 (Eff.sq ty47) ?_
  exact Bj<|Aj<|Ah<|Ar<|Gr (Rad C C)<|Gm C<|Bj<|B3 ((i+1),((k.feed ah ad ae (Int.tmod m0 5) xe)),(aw),((Y17++Y))) (by dsimp only;exact ⟨om,ar,(by rw [List.append_assoc];exact aa),om⟩) (hI:=by (try dsimp only);exact (by rw [List.append_assoc];exact Bl))
 refine Bs<|Al<|Al<|A2<|Ah<|Af<|G.e (Ak c_ C C<|Awake41_ok<|Bm hT Ay) ?_
 rintro _ _ ⟨_,_,⟨rfl,rfl⟩,rfl,rfl⟩
 exact Ga C<|Ac<|Az<|A1 C C I (by first|exact Ay|exact FitW) ⟨rfl,rfl⟩
end Go.Sl
namespace Go.Sl
open Go.ChangeShapes Go.WideShapes Go.ChangeAt Go.RowKit Go.Deep
variable{v:Value}{e:TypeId}{a:Addr}
section
variable {κ:Ctx}{w w':World}{I:List Item}
theorem old_cell(hs:Sep κ w' I)(hm:old w.heap.size w∈I){b o:Nat}{u:Value}(M:w.cell? ⟨b,o,none⟩=some u):w'.cell? ⟨b,o,none⟩=some u:=by
 have Z:∀k,k<w.heap.size->w'.heap[k]? = w.heap[k]? :=(hs.ok _ hm).1
 have hb:b<w.heap.size:=by
  refine Nat.not_le.1 λh=>?_
  simp [World.cell?,Array.getElem?_eq_none h] at M
 have:=Z b hb
 simp only [World.cell?,this] at M ⊢
 exact M
def SlW{α:Type}[Enc α](w:World)(v:Value)(xs:List α):Prop:=slOk w (Enc.sz α) v xs.length (cells xs)
theorem SlW.sl{α:Type}[Enc α]{xs:List α}(h:SlW w v xs)(hm:old w.heap.size w∈I):Sl κ I v xs:=λw' hs=>by
 obtain ⟨a,cap,hv,Z,h2,h3,h4⟩:=h
 refine ⟨a,cap,hv,Z,h2,h3,λhc=>?_⟩
 obtain ⟨b,off,ha,hr⟩:=h4 hc
 exact ⟨b,off,ha,λj u M=>old_cell hs hm<|hr j u M⟩
end
section
variable {P:Program}{w:World}{r:Reach}{b0:Nat}{t:TypeId}{H:Type}{enc:TypeId×Value->H}{base:Nat}{spare:Nat->Bool}{held:Bool}
theorem spot_none{len cap:Nat}(Z:P.underlying t=some (.slice e))(h:Cell.okWide P w r b0 t (.slice (some a) len cap)):a.spot=none:=by
 simp only [Cell.okWide,Cell.ok,Z] at h
 exact h.2.2.2.1
theorem InR_of{n:Int}(h:(Lit.int .i64 n).wf=true):InR n:=by
 simp only [Lit.wf,Bool.and_eq_true,decide_eq_true_eq] at h
 exact h
def Light(P:Program)(t:TypeId)(d:DataW H):Prop:=∀n∈d.weights P t,n<=reachBytes
theorem light_arg{Z:List TypeId}{ds:List (DataW H)}(h:(DataW.weightsEach P Z ds).all (· <= reachBytes)=true){j:Nat}{d:DataW H}(M:Z[j]? = some t)(hd:ds[j]? = some d):Light P t d:=λn hn=>by
 have:=List.all_eq_true.1 h _ (DataW.weights_mem_each M hd n hn)
 simpa using this
theorem light_slice{es sp:List (DataW H)}(M:P.underlying t=some (.slice e))(h:Light P t (.slice es sp)):es.length*P.bytesOf e<=140737488351232:=by
 have Z:=h ((es.length+sp.length)*P.bytesOf e) (by simp [DataW.weights,M])
 have h2:es.length*P.bytesOf e<=(es.length+sp.length)*P.bytesOf e:=Nat.mul_le_mul_right _ (by omega)
 simp only [reachBytes] at Z
 omega
theorem addr_eta(h:a.spot=none):a=⟨a.block,a.off,none⟩:=by cases a;simp_all
theorem in_ints{fuel:Nat}{x:DataW H×List MemPlace}(ht:P.underlying t=some (.slice e))(he:P.underlying e=some (.int .i64))(hc:P.cellsOf e=1)
  (hv:Cell.okWide P w r b0 t v) (h:DataW.trod enc P w base spare held fuel t [v]=some x) (hw:Light P t x.1):∃(a:Option Addr) (c:Nat) (xs:List Int),v = .slice a xs.length c/\SlW w (.slice a xs.length c) xs/\(∀n∈xs,InR n)/\xs.length*P.bytesOf e<=140737488351232:=by
 rcases open_ints ht he hc h with ⟨Z,_⟩|⟨a,l,c,zs,Z,_,hl,hm,hz,hx,M,ad⟩
 ·obtain rfl:v = .slice none 0 0:=by simpa using Z
  exact ⟨none,0,[],rfl,⟨none,0,rfl,by simp [cells],Nat.le_refl _,by simp,λh=>by omega⟩,by simp,by simp⟩
 obtain rfl:v = .slice (some a) l c:=by simpa using Z
 have ab:=spot_none ht hv
 have ae:l<=zs.length:=by rw [hz];split<;>omega
 have aa:(zs.take l).length=l:=by rw [List.length_take];omega
 refine ⟨some a,c,zs.take l,by rw [aa],⟨some a,c,rfl,cells_length _,by rw [aa];exact hl,hm,λah=>⟨a.block,a.off,by rw [←addr_eta ab],λj u hj=>?_⟩⟩,λn hn=>InR_of (ad n (List.mem_of_mem_take hn)),by
  rw [hx] at hw
  have:=light_slice ht hw
  simpa [lits] using this⟩
 have ai:j<l:=by
  have:=(List.getElem?_eq_some_iff.1 hj).1
  rw [cells_length,aa] at this
  have e1:Enc.sz Int=1:=rfl
  rw [e1] at this;omega
 have h1:=cells_get (zs.take l) j 0 (by omega) (by decide)
 have e1:j*Enc.sz Int+0=j:=by show j*1+0=j;omega
 rw [e1] at h1
 rw [h1] at hj
 have h2:=M j (by omega)
 rw [addr_eta ab,addr_add] at h2
 have h3:u=e7 (zs.getD j 0):=by
  have h4:some (e7<|(zs.take l)[j]'(by omega))=some u:=hj
  simp only [Option.some.injEq] at h4
  rw [←h4]
  simp [List.getD_eq_getElem?_getD,List.getElem?_eq_getElem (show j<zs.length by omega)]
 rw [h3];exact h2
theorem arg_cell{d:DataW H}{ps:List MemPlace}(Z:P.underlying t=some (.slice e))(hv:Value.okWide P w r b0 t v)(h:DataW.Trod enc P w base spare held t v d ps):Cell.okWide P w r b0 t v/\∃fuel,DataW.trod enc P w base spare held fuel t [v]=some (d,ps):=by
 obtain ⟨a,len,cap,rfl⟩:=okWide_slice Z hv
 simp only [Value.okWide,Z] at hv
 obtain ⟨fuel,M⟩:=h
 exact ⟨hv,fuel,by simpa [Value.cells] using M⟩
theorem joined_mk{P:Program}{f:FuncId}{Z:Func}{s:ChangeSpec}{c:OpenClaim}(h1:(c.wf (OpenSpec.ofChange s))=true)(h2:(laidOutB P)=true)(h3:(mapsRowed P)=true)(h4:(Z.params.all (P.readableRec ·))=true)(h5:(namedTie P c.named s.vars)=true)(h6:((c.stops==[]))=true)(h7:((P.stops==[]))=true)(h8:((c.knobs==[]))=true)(h9:((P.stopKnobs==[]))=true)(ad:((c.inPlace==P.inPlace f))=true)(az:((c.unfollowed==P.unfollowed f))=true)(aq:((c.recurses==P.recurses f))=true)(ao:((c.named==P.varsNamed f))=true)(a0:((c.maps==(Z.params.toList++s.plain.varTypes P).any (P.mapsRec ·)))=true)(aj:((c.ifaces==(Z.params.toList++s.plain.varTypes P).any (P.ifacesRec ·)))=true)(a3:((c.mapsOut==P.mapsAmong Z.resultTypes.toList))=true)(ax:((c.loops==(Z.params.toList++s.plain.varTypes P).any (P.loopsFrom ·)))=true)(ab:((c.wideKeys==(Z.params.toList++s.plain.varTypes P++Z.resultTypes.toList).any (P.wideKeysFrom ·)))=true)(ah:(s.vars.all (P.varReadable ·))=true)(ak:(Z.resultTypes.all (λt=>P.readableRec t&&decide (t<P.types.size)))=true)(ar:((c.ifacesOut==Z.resultTypes.toList.any (P.ifacesRec ·)))=true)(ai:((c.loopsOut==Z.resultTypes.toList.any (P.loopsFrom ·)))=true)(M:((c.plainKeys==P.plainKeys))=true)(a1:(c.shortTexts.isNone)=true)(au:(P.stopsHeard)=true)(aa:(P.mayEnter)=true)(an:((c.lifted==P.liftsFinal))=true)(av:((P.make==some c.make))=true)(aw:((c.kinds==(if c.domain.isEmpty then [] else Z.params.toList.map λt=>match P.underlying t with |some (.int k)=>some k|_=>none)))=true)(ae:((c.pinned==c.pinnedBy))=true)(ap:((c.veiled==(Z.params.toList++s.plain.varTypes P++Z.resultTypes.toList).any (P.veiledRec ·)))=true)(ay:(c.veiledFits P Z.params.toList (Z.params.toList++s.plain.varTypes P++Z.resultTypes.toList))=true):joinedFacts P f Z s c=true:=by
 unfold joinedFacts
 exact (Bool.and_eq_true_iff.2 ⟨(Bool.and_eq_true_iff.2 ⟨(Bool.and_eq_true_iff.2 ⟨(Bool.and_eq_true_iff.2 ⟨(Bool.and_eq_true_iff.2 ⟨(Bool.and_eq_true_iff.2 ⟨(Bool.and_eq_true_iff.2 ⟨(Bool.and_eq_true_iff.2 ⟨(Bool.and_eq_true_iff.2 ⟨(Bool.and_eq_true_iff.2 ⟨(Bool.and_eq_true_iff.2 ⟨(Bool.and_eq_true_iff.2 ⟨(Bool.and_eq_true_iff.2 ⟨(Bool.and_eq_true_iff.2 ⟨(Bool.and_eq_true_iff.2 ⟨(Bool.and_eq_true_iff.2 ⟨(Bool.and_eq_true_iff.2 ⟨(Bool.and_eq_true_iff.2 ⟨(Bool.and_eq_true_iff.2 ⟨(Bool.and_eq_true_iff.2 ⟨(Bool.and_eq_true_iff.2 ⟨(Bool.and_eq_true_iff.2 ⟨(Bool.and_eq_true_iff.2 ⟨(Bool.and_eq_true_iff.2 ⟨(Bool.and_eq_true_iff.2 ⟨(Bool.and_eq_true_iff.2 ⟨(Bool.and_eq_true_iff.2 ⟨(Bool.and_eq_true_iff.2 ⟨(Bool.and_eq_true_iff.2 ⟨(Bool.and_eq_true_iff.2 ⟨(Bool.and_eq_true_iff.2 ⟨h1,h2⟩),h3⟩),h4⟩),h5⟩),h6⟩),h7⟩),h8⟩),h9⟩),ad⟩),az⟩),aq⟩),ao⟩),a0⟩),aj⟩),a3⟩),ax⟩),ab⟩),ah⟩),ak⟩),ar⟩),ai⟩),M⟩),a1⟩),au⟩),aa⟩),an⟩),av⟩),aw⟩),ae⟩),ap⟩),ay⟩)
theorem calls_below{f:FuncId}{Z:List Value}(h:eu P ⟨w.os,w.tape,w.output,w.drawn⟩ f Z [old w.heap.size w] λr J=>r = .bool true/\[old w.heap.size w]=J) :
  Calls P f Z.toArray w λe w'=>e = .returned (.bool true)/\Below w.heap.size w w':=
 (h w<|Sep.begin w).mono λe w' ⟨v,J,M,⟨hv,hJ⟩,hs⟩=>by
  subst hv hJ
  exact ⟨M,hs.below List.mem_cons_self⟩
end
end Go.Sl
