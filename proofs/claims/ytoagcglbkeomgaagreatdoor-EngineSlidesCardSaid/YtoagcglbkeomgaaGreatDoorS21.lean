/- A part of the proofs of statements of this seat: contracts of functions, and the plain laws that they lean on. No conditions. -/
import Derived.Test.YtoagcglbkeomgaaGreatDoorS20
set_option linter.unusedVariables false
set_option linter.unusedSimpArgs false
set_option linter.unusedSectionVars false
set_option maxHeartbeats 4000000
open List (append_assoc length_append take_length mem_cons_of_mem sum_cons length_map)
namespace Go.Sl
open Go.Proofs
set_option maxRecDepth 4000
variable{a x y:Int}{ec gc j k nc:Nat}{ea ga na:Option Addr}{b:List Int}
section
variable {nd u v:Int}{es:List Pt}
theorem nb_edge(Z:GrOk nd es):y∈nbG nd es x↔edgeP x y∈es:=by
 rw [mem_nb Z]
 constructor
 ·rintro (h|h)
  ·have:=(Z.edge _ h).2.1
   simp only at this
   have e:edgeP x y=⟨x,y⟩:=by unfold edgeP;rw [if_neg om,if_pos this]
   rw [e];exact h
  have:=(Z.edge _ h).2.1
  simp only at this
  have e:edgeP x y=⟨y,x⟩:=by unfold edgeP;rw [if_pos this,if_neg om]
  rw [e];exact h
 intro h
 have hlt:=(Z.edge _ h).2.1
 rcases Int.lt_trichotomy x y with h1|h1|h1
 ·have e:edgeP x y=⟨x,y⟩:=by unfold edgeP;rw [if_neg om,if_pos h1]
  exact .inl<|e▸h
 ·subst h1;unfold edgeP at hlt;simp at hlt
 have e:edgeP x y=⟨y,x⟩:=by unfold edgeP;rw [if_pos h1,if_neg om]
 exact .inr<|e▸h
theorem find_nb(Z:GrOk nd es){b:Int}(h:FindP nd es a b y):0<=y↔b∈nbG nd es a:=by
 rw [nb_edge Z]
 rcases h with ⟨_,j,rfl,hj,e⟩|⟨rfl,h|h⟩
 ·exact ⟨λ_=>e▸B7 om om,λ_=>by omega⟩
 ·exact absurd (checkG_ok.2 Z) h
 exact ⟨λh=>by omega,λM=>absurd M h⟩
theorem fm_take{α β:Type}[Inhabited α](f:α->List β)(xs:List α)(Z:k<xs.length):(xs.take (k+1)).flatMap f=(xs.take k).flatMap f++f (e_ xs k):=by
 rw [Cj xs k Z,List.flatMap_append];simp
def ovrK(nd:Int)(es:List Pt)(u v a:Int)(k:Nat):List Pt:=(((nbG nd es v).take k).filter λb=>decide (b≠u/\b∈nbG nd es a)).map λb=>(⟨a,b⟩:Pt)
theorem ovrK_yes(Z:k<(nbG nd es v).length)(h:e_ (nbG nd es v) k≠u/\e_ (nbG nd es v) k∈nbG nd es a):ovrK nd es u v a (k+1)=ovrK nd es u v a k++[(⟨a,e_ (nbG nd es v) k⟩:Pt)]:=by
 unfold ovrK
 rw [Cj _ k Z,List.filter_append,List.filter_cons,if_pos<|decide_eq_true h,List.map_append];rfl
theorem ovrK_no(Z:k<(nbG nd es v).length)(h:¬(e_ (nbG nd es v) k≠u/\e_ (nbG nd es v) k∈nbG nd es a)):ovrK nd es u v a (k+1)=ovrK nd es u v a k:=by
 unfold ovrK
 rw [Cj _ k Z,List.filter_append,List.filter_cons,if_neg<|λq=>h<|of_decide_eq_true q];simp
theorem ovrK_all(h:a≠v):ovrK nd es u v a (nbG nd es v).length=overR nd es u v a:=by
 unfold ovrK overR
 rw [take_length,if_neg h]
theorem overR_v(h:a=v):overR nd es u v a=[]:=by unfold overR;rw [if_pos h]
end
theorem Over_ok{κ:Ctx}{I:List Item}{nd u v:Int}{va:Value}{es:List Pt}(hl:Sl κ I va es)(hG:GrOk nd es)(hT:TabRd κ I 0 tzCells):eu Tryz.prog κ 308 [.agg #[e7 nd,va],e7 u,e7 v] I (λr J=>∃a c,r = .slice a (overL nd es u v).length c/\J=vk 200 a c (overL nd es u v)::I):=by
 have ap:=edges_le hG
 refine Ce3 Tryz.func308 C C ?_
 refine Ad<|Ge1 (Bd (cs:=[_,_]) C C C) λb1=>Ga C<|Ac<|Ad<|Ga C<|Ac<|Ar<|Ad<|Gl2 ty38 ?_
 refine Gm C<|Gc2 (Aj c_ C C<|NeighG_ok (nd:=nd) (A8 hl) u<|Bn hT Ax) λM aa=>?_
 refine Gr (Bk Af C)<|Gm C<|Ac<|A5<|B1 (σ:=Nat×(Option Addr)×Nat×(List Pt)) (λs=>([(1,e7 u),(2,e7 v),(3,pt b1),(7,.slice s.2.1 s.2.2.2.length s.2.2.1),(14,.slice M (nbG nd es u).length aa),(15,e7<|(((nbG nd es u).length:Nat):Int)),(16,e7 ((s.1:Nat):Int))]:Env)) (λs=>vk 200 s.2.1 s.2.2.1 s.2.2.2::vk 3 M aa (nbG nd es u)::e8 b1 [e7 nd,va] 38::I) (λs=>(s.1<=(nbG nd es u).length)/\(s.2.2.2=((nbG nd es u).take s.1).flatMap (overR nd es u v))/\(s.2.2.2.length<=64*s.1)) (λs=>(nbG nd es u).length - s.1) (0,none,0,[]) ⟨om,rfl,(by simp)⟩ (cx2<|Aa C<|Aa (C8 C<|by first|rfl|simp)<|cx2<|Aa Cd Bp) (Co (show Fit κ _ _ from Bl)<|Cf (α:=Pt) _ _) ?_
 rintro ⟨k,oa,oc,o⟩ hp
 dsimp only at hp ⊢
 obtain ⟨hk,ho,aw⟩:=hp
 have au:=nbG_len nd es u
 have aq:=nbG_len nd es v
 refine Ad<|Gr (A9 C C)<|Ac<|Ar<|A7 C (λao=>?_)<|λao=>?_
 ·refine Aw (Ah<|Ar<|A5<|Ad<|Gr (A3 (α:=Int) (xs:=nbG nd es u) Af ef C C Bi om om)<|Gr (Bx (xs:=nbG nd es u) ef C Bi om om)<|Ga C<|Ac<|Ar<|Ad<|Gm C<|Gm C<|Gr (Br C C)<|Ac<|Ap (S9 22 9 1 2 3 7 14 15 16)<|A7 C (λak=>?_)<|λak=>?_)
  ·exact Bt<|Aq<|Bb<|Ah<|Ay<|Gr (Rad C C)<|Gm C<|Bj<|Cb ((k+1),(oa),(oc),(o))<|by dsimp only;exact ⟨om,(by rw [fm_take _ _ om,←ho];first|(rw [overR_v asm];simp;done)|(rw [Z,show k2=(nbG nd es v).length by omega,ovrK_all asm])),om⟩
  refine Aw<|Ah<|Ad<|Gl2 ty38 ?_
  refine Gm C<|Gc2 (Aj c_ C C<|NeighG_ok (nd:=nd) (A8 hl) v<|Bn hT Ax) λab ad=>?_
  refine Gr (Bk Af C)<|Gm C<|Ac<|Ap (S11 27 26 25 9 1 2 3 7 14 15 16)<|A5<|B1 (σ:=Nat×(Option Addr)×Nat×(List Pt)) (λs=>([(1,e7 u),(2,e7 v),(3,pt b1),(7,.slice s.2.1 s.2.2.2.length s.2.2.1),(9,e7<|e_ (nbG nd es u) k),(14,.slice M (nbG nd es u).length aa),(15,e7<|(((nbG nd es u).length:Nat):Int)),(16,e7<|(k:Int)),(25,.slice ab (nbG nd es v).length ad),(26,e7<|(((nbG nd es v).length:Nat):Int)),(27,e7 ((s.1:Nat):Int))]:Env)) (λs=>vk 3 ab ad (nbG nd es v)::vk 200 s.2.1 s.2.2.1 s.2.2.2::vk 3 M aa (nbG nd es u)::e8 b1 [e7 nd,va] 38::I) (λs=>(s.1<=(nbG nd es v).length)/\(s.2.2.2=o++ovrK nd es u v (e_ (nbG nd es u) k) s.1)/\(s.2.2.2.length<=o.length+s.1)) (λs=>(nbG nd es v).length - s.1) (0,oa,oc,o) (show ((0:Nat)<=(nbG nd es v).length)/\((o:List Pt)=o++ovrK nd es u v (e_ (nbG nd es u) k) (0:Nat))/\((o:List Pt).length<=o.length+(0:Nat)) from ⟨om,(by unfold ovrK;simp),om⟩) (cx2<|Aa C<|Aa (C8 C<|by first|rfl|simp)<|cx4<|cx2<|Aa Cd Bp) Bg ?_
  rintro ⟨k2,qa,qc,q⟩ hp
  dsimp only at hp ⊢
  obtain ⟨ax,Z,ar⟩:=hp
  refine Ad<|Gr (A9 C C)<|Ac<|Ar<|A7 C (λai=>?_)<|λai=>?_
  ·refine Aw (Ah<|Ar<|A5<|Ad<|Gr (A3 (α:=Int) (xs:=nbG nd es v) Af ef C C Bi om om)<|Gr (Bx (xs:=nbG nd es v) ef C Bi om om)<|Ga C<|Ac<|Ap (S12 11 1 2 3 7 9 14 15 16 25 26 27)<|Ad<|Gm C<|Gm C<|Gr (Be C C)<|Gm C<|Bh (d:=34) C (λan=>?_)<|λan=>?_)
   ·refine e9 (Bc (vs:=[_,_]) ty38) ?_
    refine e9 (Ai C)<|e9 (Ai C)<|Dx (Cq C C C) (Aj c_ C C<|FindG_ok (nd:=nd) (A8 hl) (e_ (nbG nd es u) k) (e_ (nbG nd es v) k2) om) ?_
    rintro _ _ ⟨_,_,⟨y6,rfl,av,rfl⟩,rfl,rfl⟩
    refine e9 (Cv C C)<|Gr (Av C C)<|Ac<|Ap (S13 40 11 1 2 3 7 9 14 15 16 25 26 27)<|A7 C (λae=>?_)<|λae=>?_
    ·refine Ay (Gm C<|Gm C<|Gm C<|Gr (E5 (cells:=[_,_]) ty200 Ch ef C C)<|Ge1 (Ce (α:=Pt) (cs:=[_,_]) (xs:=[⟨e_ (nbG nd es u) k,e_ (nbG nd es v) k2⟩]) B4 ty200 C C dc dc C C C C) λay=>?_)
     refine Ge2 (B3 (α:=Pt) (e:=200) (xs:=q) (ys:=([⟨e_ (nbG nd es u) k,e_ (nbG nd es v) k2⟩]:List Pt)) B4 ty200 C C C mm Bi lcn dc C<|λ_ _=>am) λaj ah=>?_
     exact Ga C<|Bj<|Am<|Ah<|Ap (S11 7 1 2 3 9 14 15 16 25 26 27)<|Ay<|Gr (Rad C C)<|Gm C<|Bj<|Cb ((k2+1),(aj),(ah),(q++([⟨e_ (nbG nd es u) k,e_ (nbG nd es v) k2⟩]:List Pt)))<|by dsimp only;exact ⟨om,(by first|(rw [ovrK_yes om ⟨by assumption,(find_nb hG asm).1 asm⟩,←append_assoc,←Z])|(rw [ovrK_no om (λh=>by first|exact absurd h.1 asm|exact absurd ((find_nb hG asm).2 h.2) asm)];exact Z)|(rw [ovrK_no om (λh=>by omega)];exact Z)),olp⟩
    exact Aw<|Am<|Ah<|Ay<|Gr (Rad C C)<|Gm C<|Bj<|Cb ((k2+1),(qa),(qc),(q))<|by dsimp only;exact ⟨om,(by first|(rw [ovrK_yes om ⟨by assumption,(find_nb hG asm).1 asm⟩,←append_assoc,←Z])|(rw [ovrK_no om (λh=>by first|exact absurd h.1 asm|exact absurd ((find_nb hG asm).2 h.2) asm)];exact Z)|(rw [ovrK_no om (λh=>by omega)];exact Z)),olp⟩
   exact eb<|eb<|eb<|eb<|eb<|Gr (Au C C)<|Ac<|Ap (S13 40 11 1 2 3 7 9 14 15 16 25 26 27)<|Dg C<|Aw<|Am<|Ah<|Ay<|Gr (Rad C C)<|Gm C<|Bj<|Cb ((k2+1),(qa),(qc),(q))<|by dsimp only;exact ⟨om,(by first|(rw [ovrK_yes om ⟨by assumption,(find_nb hG asm).1 asm⟩,←append_assoc,←Z])|(rw [ovrK_no om (λh=>by first|exact absurd h.1 asm|exact absurd ((find_nb hG asm).2 h.2) asm)];exact Z)|(rw [ovrK_no om (λh=>by omega)];exact Z)),olp⟩
  exact Bt<|Aq<|Aq<|Bb<|Am<|Ah<|Ay<|Gr (Rad C C)<|Gm C<|Bj<|Cb ((k+1),(qa),(qc),(q))<|by dsimp only;exact ⟨om,(by rw [fm_take _ _ om,←ho];first|(rw [overR_v asm];simp;done)|(rw [Z,show k2=(nbG nd es v).length by omega,ovrK_all asm])),om⟩
 refine Bt<|Aq<|Aq<|Bb<|Ah<|Ad<|Gm C<|Ga C<|Ac<|Az ?_
 have hE:(overL nd es u v)=o:=by rw [ho,show k=(nbG nd es u).length by omega,take_length];rfl
 exact A1 C C (vk 200 oa oc (overL nd es u v)::I) (by unfold vk;rw [hE];exact Bl) ⟨oa,oc,by rw [hE],rfl⟩
theorem findp_lt{nd u v:Int}{es:List Pt}(h:FindP nd es u v y):y<(es.length:Int):=by
 rcases h with ⟨_,j,rfl,Z,_⟩|⟨rfl,_⟩<;>omega
theorem MChanged_ok{κ:Ctx}{I:List Item}{nd nd':Int}{M ma:Option Addr}{mc:Nat}{es es':List Pt}{num num':List Int}(hl:Sl κ I (.slice M es.length ec) es)(hm:Sl κ I (.slice na num.length nc) num)(ad:Sl κ I (.slice ga es'.length gc) es')(Z:Sl κ I (.slice ma num'.length mc) num')(hb:es.length<=1000000)(ap:es'.length<=1000000)(h1:num.length=es.length)(h2:num'.length=es'.length):eu Tryz.prog κ 289 [.agg #[e7 nd,.slice M es.length ec,.slice na num.length nc],.agg #[e7 (nd'),.slice ga es'.length gc,.slice ma num'.length mc]] I (λr J=>∃w:Value,r=w/\J=I):=by
 refine Ce2 Tryz.func289 C C ?_
 refine Ad<|Ge1 (Bd (cs:=[_,_,_]) C C C) λb1=>Ge1 (Bd (cs:=[_,_,_]) C C C) λb2=>Ga C<|Ac<|Ad<|Ga C<|Ac<|Ar<|Ad<|Gf fld41_0 C<|Gf fld38_1 C<|Gl ty36 ?_
 refine Gr (Bk A6 C)<|Gm C<|Ac<|A5<|B1 (σ:=Nat×(Option Addr)×Nat×(List Pt)) (λs=>([(2,pt b1),(3,pt b2),(5,.slice s.2.1 s.2.2.2.length s.2.2.1),(11,.slice M es.length ec),(12,e7 ((es.length:Nat):Int)),(13,e7 ((s.1:Nat):Int))]:Env)) (λs=>vk 105 s.2.1 s.2.2.1 s.2.2.2::e8 b2 [e7 (nd'),.slice ga es'.length gc,.slice ma num'.length mc] 41::e8 b1 [e7 nd,.slice M es.length ec,.slice na num.length nc] 41::I) (λs=>(s.1<=es.length)/\(s.2.2.2.length<=s.1)) (λs=>es.length - s.1) (0,none,0,[]) ⟨om,(by simp)⟩ (cx2<|Aa (C8 C<|by first|rfl|simp)<|cx2<|Aa Cd Bp) (Co (show Fit κ _ _ from Bl)<|Cf (α:=Pt) _ _) ?_
 rintro ⟨k,oa,oc,o⟩ hp
 dsimp only at hp ⊢
 obtain ⟨hk,ao⟩:=hp
 refine Ad<|Gr (A9 C C)<|Ac<|Ar<|A7 C (λah=>?_)<|λah=>?_
 ·refine Aw (Ah<|Ar<|A5<|Ad<|Gm C<|Gr (A3 (α:=Pt) (xs:=es) A6 ty105 C C (A8 hl) om om)<|Gr (Bv (α:=Pt) (xs:=es) ty105 C (A8 hl) om om)<|Ge1 (A4 ty105 C) λb3=>Ga C<|Ge0 (Cz ty105) ?_)
  refine Ac<|Ad<|Gf fld41_0 C<|Gl2 ty38 ?_
  refine Gf fld105_0 C<|Gl ef ?_
  refine Gf fld105_1 C<|Gl ef ?_
  refine G.e (Aj c_ C C<|FindG_ok (nd:=nd') (A8 ad) ((e_ es k).u) ((e_ es k).v) om) ?_
  rintro _ _ ⟨_,_,⟨y4,rfl,ae,rfl⟩,rfl,rfl⟩
  refine Ga C ?_
  have an:=findp_lt ae
  refine Ac<|Ap (S9 8 6 7 2 3 5 11 12 13)<|Ar<|Bs mixed<|El 15<|Dr 0 C (Ai C)<|Dr 1 C (Cv C C)<|Dr 2 C (Ai C)<|Dw (d:=27) C (λaj=>?_)<|λaj=>?_
  ·refine Dro 3 C (Ab fld41_1 C) (Dro 4 C (A0 ty22) ?_)
   refine Dro 5 C (Ai C)<|Dro 6 C (A3 (α:=Int) (xs:=num) Af ef C C (A8 hm) om om)<|Dro 7 C (Bx (xs:=num) ef C (A8 hm) om om)<|Dro 8 C (Ab fld41_1 C)<|Dro 9 C (A0 ty22) ?_
   refine Dro 10 C (Ai C)<|Dro 11 C (A3 (α:=Int) (xs:=num') Af ef C C (A8 Z) om om)<|Dro 12 C (Bx (xs:=num') ef C (A8 Z) om om)<|Dro 13 C (Be C C)<|Dr 14 C (Av C C)<|Dz<|Ah<|Ap (S8 39 7 2 3 5 11 12 13)<|A7 C (λaa=>?_)<|λaa=>?_
   ·refine Ay (Gm C<|Gl2 ty105 ?_)
    refine Ge1 (Ce (α:=Pt) (cs:=[_,_]) (xs:=[⟨(e_ es k).u,(e_ es k).v⟩]) A6 ty105 C C dc dc C C C C) λak=>?_
    refine Ge2 (B3 (α:=Pt) (e:=105) (xs:=o) (ys:=([⟨(e_ es k).u,(e_ es k).v⟩]:List Pt)) A6 ty105 C C C mm Bi lcn dc C<|λ_ _=>am) λab ai=>?_
    exact Ga C<|Bj<|Am<|Ah<|Ay<|Gr (Rad C C)<|Gm C<|Bj<|Cb ((k+1),(ab),(ai),(o++([⟨(e_ es k).u,(e_ es k).v⟩]:List Pt)))<|by dsimp only;exact ⟨om,olp⟩
   exact Aw<|Am<|Ah<|Ay<|Gr (Rad C C)<|Gm C<|Bj<|Cb ((k+1),(oa),(oc),(o))<|by dsimp only;exact ⟨om,olp⟩
  exact Dpo 3 C<|Dpo 4 C<|Dpo 5 C<|Dpo 6 C<|Dpo 7 C<|Dpo 8 C<|Dpo 9 C<|Dpo 10 C<|Dpo 11 C<|Dpo 12 C<|Dpo 13 C<|Dr 14 C (Au C C)<|Dz<|Ah<|Ap (S8 39 7 2 3 5 11 12 13)<|Dg C<|Aw<|Am<|Ah<|Ay<|Gr (Rad C C)<|Gm C<|Bj<|Cb ((k+1),(oa),(oc),(o))<|by dsimp only;exact ⟨om,olp⟩
 exact Bt<|Aq<|Aq<|Bb<|Ah<|Ad<|Gm C<|Ga C<|Ac<|Az<|A1 C C I Ax ⟨_,rfl,rfl⟩
section
variable {nd:Int}{es:List Pt}{bs ms:List Int}
theorem trisE_len(nd:Int)(es:List Pt):(trisE nd es).length=es.length:=length_map ..
theorem TrB.start(hB:TrB nd es bs)(h1:∀i:Int,0<=i->i<es.length->i∈ms)(h2:∀i∈ms,0<=i/\i<es.length):SinkI (trisE nd es) (trussG nd es) bs ms:=by
 have M:=trisE_len nd es
 exact ⟨by rw [M];exact hB.len,λi hi=>by rw [M];exact h2 i hi,λi Z i1=>hB.low i Z om,λi Z i1=> .inl<|h1 i Z om⟩
theorem trussG_is(Z:GrOk nd es):IsTr (λi:Int=>0<=i/\i<(trisE nd es).length) (triI (trisE nd es)) λi=>(e_ (trussG nd es) i).toNat:=by
 have M:=trussE_is (triG Z) (trussE (triG Z)<|tris_ok Z)
 rw [trussG_eq Z];exact M
theorem nn_sum:∀{l:List Int},(∀x∈l,0<=x)->0<=l.sum
 |[],_=>by simp
 |x::l,h=>by
  have h1:=nn_sum (l:=l) λy Z=>h y (mem_cons_of_mem _ Z)
  have M:=h x List.mem_cons_self
  rw [sum_cons];omega
theorem le_sum{m:Int}:∀{l:List Int},(∀x∈l,x<=m)->l.sum<=m*(l.length:Int)
 |[],_=>by simp
 |x::l,h=>by
  have h1:=le_sum (l:=l) λy Z=>h y (mem_cons_of_mem _ Z)
  have h2:=h x List.mem_cons_self
  rw [sum_cons,List.length_cons]
  have M:m*((l.length+1:Nat):Int)=m*(l.length:Int)+m:=by rw [Int.natCast_add,Int.mul_add];simp
  omega
theorem sink_nn{tri:List (List Pt)}{t q:List Int}(h:SinkI tri t b q):0<=b.sum:=nn_sum λx Z=>by
 obtain ⟨i,hi,rfl⟩:=mem_atN Z
 have h1:=h.len
 have M:=h.low (i:Int) om om
 omega
theorem bothL_len2(l:List Pt):(bothL l).length=2*l.length:=by
 induction l with
 |nil=>rfl
 |cons p l ih=>unfold bothL at ih ⊢; rw [List.flatMap_cons,length_append,ih];simp;omega
theorem bothL_take2(l:List Pt)(h:k<l.length):bothL (l.take (k+1))=bothL (l.take k)++[(e_ l k).u,(e_ l k).v]:=by
 unfold bothL;rw [Cj l k h,List.flatMap_append];simp
theorem cons_at(h:0<ms.length):ms=e_ ms 0::ms.drop 1:=by
 cases ms with
 |nil=>cases h
 |cons a l=>rfl
end
theorem Sink_ok{κ:Ctx}{I:List Item}{nd:Int}{ba:Option Addr}{bc:Nat}{es:List Pt}{bs:List Int}(hl:Sl κ I (.slice ea es.length ec) es)(hG:GrOk nd es)(hB:TrB nd es bs)(a3:∀x∈bs,0<=x/\x<=1000)(hT:TabRd κ I 0 tzCells):eu Tryz.prog κ 288 [.agg #[e7 nd,.slice ea es.length ec],.slice ba bs.length bc] (vk 3 ba bc bs::I) (λr J=>r = .slice ba bs.length bc/\J=vc 3 (.slice ba bs.length bc) (trussG nd es)::I):=by
 have bu:=hG.rng
 have bz:=edges_le hG
 have b9:=hB.len
 have bv:=nn_sum (λx hx=>(a3 x hx).1)
 have bp:=le_sum (λx hx=>(a3 x hx).2)
 have b7:=trisE_len nd es
 refine Ce2 Tryz.func288 C C ?_
 refine Ad<|Ge1 (Bd (cs:=[_,_]) C C C) λb1=>Ga C<|Ac<|Ad<|Gl2 ty38 ?_
 refine G.e (Aj c_ C C<|Triangles_ok (nd:=nd) (A8 hl) hG om<|Bn hT Ax) ?_
 rintro _ _ ⟨_,_,⟨ah,ae,Z,rfl,au,rfl⟩,rfl,rfl⟩
 have b4:Z.length=(trisE nd es).length:=by rw [←au,length_map]
 refine D9 (J:=vk 198 ah ae Z::e8 b1 [e7 nd,.slice ea es.length ec] 38::vk 3 ba bc bs::(rgI Z++I)) (C4<|List.Perm.cons _<|Dk (A:=rgI Z) (L:=[e8 b1 [e7 nd,.slice ea es.length ec] 38,vk 3 ba bc bs]) (T:=I)) ?_
 refine Ga C<|Ac<|Ad<|G.e (Aj c_ C C Queue_ok) ?_
 rintro _ _ ⟨_,_,⟨ad,rfl,rfl⟩,rfl,rfl⟩
 refine Gm C<|Gr (Ak C C)<|Gr (Ak C C)<|Ga C<|Ga C<|Ac<|Ar<|Ad<|Gm C<|Gr (Bk Af C)<|Gm C<|Ac<|Ap (S6 25 24 7 6 5 1)<|A5<|B1 (σ:=Nat×(Option Addr)×Nat×(List Int)) (λs=>([(1,.slice ba bs.length bc),(5,.slice ah Z.length ae),(6,.func (.func 292) #[] #[(pt ad)]),(7,.func (.func 293) #[] #[(pt ad)]),(24,e7 ((bs.length:Nat):Int)),(25,e7 ((s.1:Nat):Int))]:Env)) (λs=>vk 3 s.2.1 s.2.2.1 s.2.2.2::e8 ad [.slice s.2.1 s.2.2.2.length s.2.2.1] 22::vk 198 ah ae Z::e8 b1 [e7 nd,.slice ea es.length ec] 38::vk 3 ba bc bs::(rgI Z++I)) (λs=>(s.1<=bs.length)/\(s.2.2.2.length=s.1)/\(∀i:Int,i∈s.2.2.2↔0<=i/\i<(s.1:Int))) (λs=>bs.length - s.1) (0,none,0,([]:List Int)) ⟨om,rfl,(λi=>⟨(λh=>by cases h),(λh=>by omega)⟩)⟩ (cx4<|Aa C<|Aa Cd Bp) Bg ?_
 rintro ⟨k,qa,qc,q⟩ hp
 dsimp only at hp ⊢
 obtain ⟨hk,b8,hq⟩:=hp
 refine Ad<|Gr (A9 C C)<|Ac<|Ar<|A7 C (λa9=>?_)<|λa9=>?_
 ·refine Aw (Ah<|Ar<|A5<|Ad<|Gm C<|Ga C<|Ac<|Ay<|Gm C<|Gm C<|Gc2 (Cx c_ C C C<|Cp (J:=vk 3 qa qc q::e8 ad [.slice qa q.length qc] 22::vk 198 ah ae Z::e8 b1 [e7 nd,.slice ea es.length ec] 38::vk 3 ba bc bs::(rgI Z++I)) Bl<|QPut_ok (b:=ad) (qs:=q) (i:=(k:Int)) olp) λbm be=>?_)
  exact Bj<|Am<|Ah<|Ay<|Gr (Rad C C)<|Gm C<|Bj<|Cb ((k+1),(bm),(be),(q++[(k:Int)]))<|by dsimp only;exact ⟨om,lap,(λi=>by rw [List.mem_append,List.mem_singleton,hq];omega)⟩
 refine Bt<|Aq<|Aq<|Bb<|Ah<|A5<|B1 (σ:=(List Int)×(Option Addr)×Nat×(List Int)) (λs=>([(1,.slice ba bs.length bc),(5,.slice ah Z.length ae),(6,.func (.func 292) #[] #[(pt ad)]),(7,.func (.func 293) #[] #[(pt ad)])]:Env)) (λs=>vk 3 s.2.1 s.2.2.1 s.2.2.2::e8 ad [.slice s.2.1 s.2.2.2.length s.2.2.1] 22::vk 198 ah ae Z::e8 b1 [e7 nd,.slice ea es.length ec] 38::vc 3 (.slice ba bs.length bc) (s.1)::(rgI Z++I)) (λs=>(SinkI (trisE nd es) (trussG nd es) s.1 s.2.2.2)/\((s.2.2.2.length:Int)+200*s.1.sum<=(bs.length:Int)+200*bs.sum)) (λs=>s.2.2.2.length+200*s.1.sum.toNat) (bs,qa,qc,q) (show (SinkI (trisE nd es) (trussG nd es) (bs:List Int) (q:List Int))/\(((q:List Int).length:Int)+200*(bs:List Int).sum<=(bs.length:Int)+200*bs.sum) from ⟨(hB.start (λi h0 h1=>(hq i).2 ⟨h0,by omega⟩) (λi hi=>by have:=(hq i).1 hi;omega)),om⟩) (cx2<|Aa C<|Aa C Bp) Bg ?_
 rintro ⟨M,ma,mc,ms⟩ hp
 dsimp only at hp ⊢
 obtain ⟨hS,b5⟩:=hp
 have bq:=hS.len
 have bx:=sink_nn hS
 have br:=hS.low
 refine A5<|Ad<|Gm C<|G.e (Cx c_ C C C<|Cp (J:=vk 3 ma mc ms::e8 ad [.slice ma ms.length mc] 22::vk 198 ah ae Z::e8 b1 [e7 nd,.slice ea es.length ec] 38::vc 3 (.slice ba bs.length bc) (M)::(rgI Z++I)) Bl<|QTake_ok (b:=ad) (qs:=ms) olp) ?_
 rintro _ _ ⟨_,_,(⟨bo,rfl,rfl⟩|⟨a8,ai,aj,rfl,rfl⟩),rfl,rfl⟩
 ·skip
  refine Gm C<|Gr (Ak C C)<|Gr (Ak C C)<|Ga C<|Ga C<|Ac<|Ar<|Ad<|Gm C<|Gr (Cn C)<|Ac<|Cu C<|Ad<|Gm C<|Ga C<|Ac<|Ap (S1 4)<|Az<|Ao<|Ba<|Ao<|Ba ?_
  have bi:ms=[]:=by assumption
  rw [bi] at hS
  have bf:=hS.done (triG hG) (trussG_is hG) (by rw [trussG_lenE hG];omega)
  exact A1 C C (vc 3 (.slice ba bs.length bc) (trussG nd es)::I) (by rw [←bf];exact Bl) ⟨rfl,rfl⟩
 skip
 refine Gm C<|Gr (Ak C C)<|Gr (Ak C C)<|Ga C<|Ga C<|Ac<|Ar<|Ad<|Gm C<|Gr (Cn C)<|Ac<|Dg C<|Aw<|Ah<|Ad<|Ga C ?_
 have ap:=hS.rng _ (B7 (xs:=ms) (i:=0) om om)
 have ao:(e_ Z<|e_ ms 0).xs=e_ (trisE nd es) (e_ ms 0):=rows_atG au ap.1 om
 have bh:=(tris_ok hG).len _ (B7 (xs:=(trisE nd es)) ap.1 om)
 rw [←ao] at bh
 have ax:SinkI (trisE nd es) (trussG nd es) M ((e_ ms 0)::ms.drop 1):=by rw [←cons_at om];exact hS
 have a5:=fun (p:Pt) (hp:p∈(e_ Z<|e_ ms 0).xs)=>((triG hG).rng _ ap.1 ap.2 p (ao▸hp)).1
 refine Ac<|Ap (S6 11 9 1 5 6 7)<|Ar<|Ad<|Gm C<|Gm C<|Gr (A3 (α:=(RowG Pt)) (xs:=Z) Dh ty198 C C Bi (by first|omega|(have h8:=aa om;omega))<|by first|omega|(have h8:=aa om;omega))<|Gr (B9 (α:=(RowG Pt)) (xs:=Z) (u:= .slice (e_ Z<|e_ ms 0).a (e_ Z<|e_ ms 0).xs.length (e_ Z<|e_ ms 0).c) ty198 C Bi (by first|omega|(have h8:=aa om;omega)) (by first|omega|(have h8:=aa om;omega)) C)<|Gr (Bk B4 C)<|Gm C<|Ac<|A5<|B1 (σ:=Nat×(Option Addr)×Nat×(List Int)) (λs=>([(1,.slice ba bs.length bc),(5,.slice ah Z.length ae),(6,.func (.func 292) #[] #[(pt ad)]),(7,.func (.func 293) #[] #[(pt ad)]),(9,e7<|e_ ms 0),(11,.slice s.2.1 s.2.2.2.length s.2.2.1),(43,.slice (e_ Z<|e_ ms 0).a (e_ Z<|e_ ms 0).xs.length (e_ Z<|e_ ms 0).c),(44,e7<|(((e_ Z<|e_ ms 0).xs.length:Nat):Int)),(45,e7 ((s.1:Nat):Int))]:Env)) (λs=>vk 3 s.2.1 s.2.2.1 s.2.2.2::vk 3 ai aj (List.drop 1 ms)::e8 ad [.slice ai (List.drop 1 ms).length aj] 22::vk 198 ah ae Z::e8 b1 [e7 nd,.slice ea es.length ec] 38::vc 3 (.slice ba bs.length bc) (M)::(rgI Z++I)) (λs=>(s.1<=(e_ Z<|e_ ms 0).xs.length)/\(s.2.2.2=((e_ Z<|e_ ms 0).xs.take s.1).map λp=>min (e_ M p.u)<|e_ M p.v)) (λs=>(e_ Z<|e_ ms 0).xs.length - s.1) (0,none,0,([]:List Int)) ⟨om,rfl⟩ (cx4<|Aa C<|Aa (C8 C<|by first|rfl|simp)<|cx2<|Aa Cd Bp) (Co (show Fit κ _ _ from Bl)<|Cf (α:=Int) _ _) ?_
 rintro ⟨j,oa,oc,o⟩ hp
 dsimp only at hp ⊢
 obtain ⟨hj,ho⟩:=hp
 have b2:o.length=j:=by rw [ho,length_map,List.length_take];omega
 have aa:=λh:j<(e_ Z<|e_ ms 0).xs.length=>a5 _ (B7 (xs:=(e_ Z<|e_ ms 0).xs) (i:=(j:Int)) om om)
 refine Ad<|Gr (A9 C C)<|Ac<|Ar<|A7 C (λa7=>?_)<|λa7=>?_
 ·refine Aw (Ah<|Ar<|A5<|Ad<|Gr (A3 (α:=Pt) (xs:=(e_ Z<|e_ ms 0).xs) B4 ty200 C C (De<|by repeat (first|exact rgI_mem (rs:=Z) (i:=(e_ ms 0)) om om|apply mem_cons_of_mem)) (by first|omega|(have h8:=aa om;omega))<|by first|omega|(have h8:=aa om;omega))<|Gr (Bv (α:=Pt) (xs:=(e_ Z<|e_ ms 0).xs) ty200 C (De<|by repeat (first|exact rgI_mem (rs:=Z) (i:=(e_ ms 0)) om om|apply mem_cons_of_mem)) (by first|omega|(have h8:=aa om;omega))<|by first|omega|(have h8:=aa om;omega))<|Ge1 (A4 ty200 C) λbj=>Ge0 (Cz ty200) ?_)
  refine Ac<|Bs mixed<|Cc (e8 bj [e7 ((e_ ((e_ Z<|e_ ms 0).xs) (j:Int)).u),e7<|(e_ ((e_ Z<|e_ ms 0).xs) (j:Int)).v] 200::vk 3 ai aj (List.drop 1 ms)::e8 ad [.slice ai (List.drop 1 ms).length aj] 22::vk 198 ah ae Z::e8 b1 [e7 nd,.slice ea es.length ec] 38::vc 3 (.slice ba bs.length bc) (M)::(rgI Z++I)) 15<|Dr 0 C (Ai C)<|Dr 1 C (Ai C)<|Dr 2 C (Cg Ch ty2 C C om om)<|Dr 3 C (A0 ef) ?_
  refine Dr 4 C (A3 (α:=Int) (xs:=M) Af ef C C Bi (by first|omega|(have h8:=aa om;omega))<|by first|omega|(have h8:=aa om;omega))<|Dr 5 C (Bx (xs:=M) ef C Bi (by first|omega|(have h8:=aa om;omega))<|by first|omega|(have h8:=aa om;omega))<|Dr 6 C (Ai C)<|Dr 7 C (Cg Ch ty2 C C om om)<|Dr 8 C (A0 ef) ?_
  refine Dr 9 C (A3 (α:=Int) (xs:=M) Af ef C C Bi (by first|omega|(have h8:=aa om;omega))<|by first|omega|(have h8:=aa om;omega))<|Dr 10 C (Bx (xs:=M) ef C Bi (by first|omega|(have h8:=aa om;omega))<|by first|omega|(have h8:=aa om;omega))<|Dr 11 C (Es C C)<|Ds1 12<|Se1 C (Ce (α:=Int) (cs:=[_]) (xs:=[if (e_ M<|(e_ ((e_ Z<|e_ ms 0).xs) (j:Int)).v)<(e_ M<|(e_ ((e_ Z<|e_ ms 0).xs) (j:Int)).u) then (e_ M<|(e_ ((e_ Z<|e_ ms 0).xs) (j:Int)).v) else (e_ M<|(e_ ((e_ Z<|e_ ms 0).xs) (j:Int)).u)]) Af ef C C dc dc C C C C) λbt=>?_
  refine Ds1 13<|Se2 C (B3 (α:=Int) (e:=3) (xs:=o) (ys:=([if (e_ M<|(e_ ((e_ Z<|e_ ms 0).xs) (j:Int)).v)<(e_ M<|(e_ ((e_ Z<|e_ ms 0).xs) (j:Int)).u) then (e_ M<|(e_ ((e_ Z<|e_ ms 0).xs) (j:Int)).v) else (e_ M<|(e_ ((e_ Z<|e_ ms 0).xs) (j:Int)).u)]:List Int)) Af ef C C C mm Bi lcn dc C<|λ_ _=>am) λaw a1=>?_
  exact Dr 14 C (Bf C)<|Dz<|Am<|Ah<|Ap (S9 11 1 5 6 7 9 43 44 45)<|Ay<|Gr (Rad C C)<|Gm C<|Bj<|Cb ((j+1),(aw),(a1),(o++([if (e_ M<|(e_ ((e_ Z<|e_ ms 0).xs) (j:Int)).v)<(e_ M<|(e_ ((e_ Z<|e_ ms 0).xs) (j:Int)).u) then (e_ M<|(e_ ((e_ Z<|e_ ms 0).xs) (j:Int)).v) else (e_ M<|(e_ ((e_ Z<|e_ ms 0).xs) (j:Int)).u)]:List Int)))<|by dsimp only;exact ⟨om,(by rw [Cj _ j om,List.map_append,←ho];simp only [List.map_cons,List.map_nil];first|rfl|(rw [ifmin]))⟩
 refine Bt<|Aq<|Aq<|Bb<|Ah<|Ar<|Bs mixed<|El 8<|Dr 0 C (Ai C)<|Dr 2 C (Ai C)<|Dr 3 C (Ai C)<|Dr 4 C (A3 (α:=Int) (xs:=M) Af ef C C Bi (by first|omega|(have h8:=aa om;omega))<|by first|omega|(have h8:=aa om;omega))<|Dr 5 C (Bx (xs:=M) ef C Bi (by first|omega|(have h8:=aa om;omega))<|by first|omega|(have h8:=aa om;omega))<|Ds1 1<|Se C (Aj c_ C C<|H_ok (xs:=o) Bi om) ?_
 rintro _ _ ⟨_,_,⟨ab,rfl,ak,rfl⟩,rfl,rfl⟩
 refine ⟨Ax,?_⟩
 refine Dr 6 C (Es C C) ?_
 have a6:(if (e_ M<|e_ ms 0)<(ab:Int) then (e_ M<|e_ ms 0) else (ab:Int))=(min (ab:Int)<|e_ M<|e_ ms 0):=by split<;>omega
 rw [a6]
 have az:HI (minsT (trisE nd es) M<|e_ ms 0) (ab:Int):=by rw [ho,show j=(e_ Z<|e_ ms 0).xs.length by omega,take_length,ao] at ak;exact ak
 refine Dr 7 C (Bf C)<|Dz<|Ah<|Ap (S6 14 1 5 6 7 9)<|Ad<|Gm C<|Gm C<|Gm C<|Gr (A3 (α:=Int) (xs:=M) Af ef C C Bi (by first|omega|(have h8:=aa om;omega))<|by first|omega|(have h8:=aa om;omega))<|Gr (Bx (xs:=M) ef C Bi (by first|omega|(have h8:=aa om;omega))<|by first|omega|(have h8:=aa om;omega))<|Gr (A9 C C)<|Ac<|A7 C (λbg=>?_)<|λbg=>?_
 ·refine Ad (Gm C<|Gm C<|Gm C<|Gr (A3 (α:=Int) (xs:=M) Af ef C C Bi (by first|omega|(have h8:=aa om;omega))<|by first|omega|(have h8:=aa om;omega))<|Ge0 (C1 (α:=Int) (xs:=M) (e:=3) (new:=(min (ab:Int)<|e_ M<|e_ ms 0)) ef C C C (by first|omega|(have h8:=aa om;omega)) (by first|omega|(have h8:=aa om;omega)) am) ?_)
  refine Ac<|Ap (S5 1 5 6 7 9)<|Ad<|Gm C<|Gm C<|Gr (A3 (α:=(RowG Pt)) (xs:=Z) Dh ty198 C C Bi (by first|omega|(have h8:=aa om;omega))<|by first|omega|(have h8:=aa om;omega))<|Gr (B9 (α:=(RowG Pt)) (xs:=Z) (u:= .slice (e_ Z<|e_ ms 0).a (e_ Z<|e_ ms 0).xs.length (e_ Z<|e_ ms 0).c) ty198 C Bi (by first|omega|(have h8:=aa om;omega)) (by first|omega|(have h8:=aa om;omega)) C)<|Gr (Bk B4 C)<|Gm C<|Ac<|A5<|B1 (σ:=Nat×(Option Addr)×Nat×(List Int)) (λs=>([(1,.slice ba bs.length bc),(5,.slice ah Z.length ae),(6,.func (.func 292) #[] #[(pt ad)]),(7,.func (.func 293) #[] #[(pt ad)]),(84,.slice (e_ Z<|e_ ms 0).a (e_ Z<|e_ ms 0).xs.length (e_ Z<|e_ ms 0).c),(85,e7<|(((e_ Z<|e_ ms 0).xs.length:Nat):Int)),(86,e7 ((s.1:Nat):Int))]:Env)) (λs=>vk 3 s.2.1 s.2.2.1 s.2.2.2::e8 ad [.slice s.2.1 s.2.2.2.length s.2.2.1] 22::vk 3 oa oc o::vk 198 ah ae Z::e8 b1 [e7 nd,.slice ea es.length ec] 38::vc 3 (.slice ba bs.length bc) (List.set M (e_ ms 0).toNat ((min (ab:Int)<|e_ M<|e_ ms 0)))::(rgI Z++I)) (λs=>(s.1<=(e_ Z<|e_ ms 0).xs.length)/\(s.2.2.2=ms.drop 1++bothL ((e_ Z<|e_ ms 0).xs.take s.1))) (λs=>(e_ Z<|e_ ms 0).xs.length - s.1) (0,ai,aj,List.drop 1 ms) ⟨om,(by unfold bothL;simp)⟩ (cx4<|cx2<|Aa Cd Bp) Bl ?_
  rintro ⟨j2,pa,pc,ps⟩ hp
  dsimp only at hp ⊢
  obtain ⟨b6,av⟩:=hp
  have b3:ps.length=(ms.length - 1)+2*j2:=by rw [av,length_append,List.length_drop,bothL_len2,List.length_take];omega
  refine Ad<|Gr (A9 C C)<|Ac<|Ar<|A7 C (λbn=>?_)<|λbn=>?_
  ·refine Aw (Ah<|Ar<|A5<|Ad<|Gr (A3 (α:=Pt) (xs:=(e_ Z<|e_ ms 0).xs) B4 ty200 C C (De<|by repeat (first|exact rgI_mem (rs:=Z) (i:=(e_ ms 0)) om om|apply mem_cons_of_mem)) (by first|omega|(have h8:=aa om;omega))<|by first|omega|(have h8:=aa om;omega))<|Gr (Bv (α:=Pt) (xs:=(e_ Z<|e_ ms 0).xs) ty200 C (De<|by repeat (first|exact rgI_mem (rs:=Z) (i:=(e_ ms 0)) om om|apply mem_cons_of_mem)) (by first|omega|(have h8:=aa om;omega))<|by first|omega|(have h8:=aa om;omega))<|Ge1 (A4 ty200 C) λa0=>Ge0 (Cz ty200) ?_)
   refine Ac<|Ad<|Gm C<|Gr (Cg Ch ty2 C C om om)<|Gl ef ?_
   refine Gc2 (Cx c_ C C C<|Cp (J:=vk 3 pa pc ps::e8 ad [.slice pa ps.length pc] 22::e8 a0 [e7 ((e_ ((e_ Z<|e_ ms 0).xs) (j2:Int)).u),e7<|(e_ ((e_ Z<|e_ ms 0).xs) (j2:Int)).v] 200::vk 3 oa oc o::vk 198 ah ae Z::e8 b1 [e7 nd,.slice ea es.length ec] 38::vc 3 (.slice ba bs.length bc) (List.set M (e_ ms 0).toNat ((min (ab:Int)<|e_ M<|e_ ms 0)))::(rgI Z++I)) Bl<|QPut_ok (b:=ad) (qs:=ps) (i:=(e_ ((e_ Z<|e_ ms 0).xs) (j2:Int)).u) olp) λaq ar=>?_
   refine Ac<|Ap (S8 16 1 5 6 7 84 85 86)<|Ay<|Gm C<|Gr (Cg Ch ty2 C C om om)<|Gl ef ?_
   refine Gc2 (Cx c_ C C C<|Cp (J:=vk 3 aq ar (ps++[(e_ ((e_ Z<|e_ ms 0).xs) (j2:Int)).u])::e8 ad [.slice aq (ps++[(e_ ((e_ Z<|e_ ms 0).xs) (j2:Int)).u]).length ar] 22::e8 a0 [e7 ((e_ ((e_ Z<|e_ ms 0).xs) (j2:Int)).u),e7<|(e_ ((e_ Z<|e_ ms 0).xs) (j2:Int)).v] 200::vk 3 oa oc o::vk 198 ah ae Z::e8 b1 [e7 nd,.slice ea es.length ec] 38::vc 3 (.slice ba bs.length bc) (List.set M (e_ ms 0).toNat ((min (ab:Int)<|e_ M<|e_ ms 0)))::(rgI Z++I)) Bl<|QPut_ok (b:=ad) (qs:=ps++[(e_ ((e_ Z<|e_ ms 0).xs) (j2:Int)).u]) (i:=(e_ ((e_ Z<|e_ ms 0).xs) (j2:Int)).v) olp) λa4 ay=>?_
   exact Bj<|Am<|Ah<|Ay<|Gr (Rad C C)<|Gm C<|Bj<|Cb ((j2+1),(a4),(ay),((ps++[(e_ ((e_ Z<|e_ ms 0).xs) (j2:Int)).u])++[(e_ ((e_ Z<|e_ ms 0).xs) (j2:Int)).v]))<|by dsimp only;exact ⟨om,(by rw [bothL_take2 _ om,←append_assoc,←av];simp)⟩
  refine Bt<|Aq<|Aq<|Bb<|Am ?_
  have bk:min (ab:Int) (e_ M<|e_ ms 0)=(ab:Int):=by omega
  have an:SinkI (trisE nd es) (trussG nd es) (List.set M (e_ ms 0).toNat ((min (ab:Int)<|e_ M<|e_ ms 0))) (ps):=by rw [bk,av,show j2=(e_ Z<|e_ ms 0).xs.length by omega,take_length,ao];exact ax.sink (triG hG) (trussG_is hG) az om
  have bw:=sink_nn an
  have bb:(List.set M (e_ ms 0).toNat ((min (ab:Int)<|e_ M<|e_ ms 0))).sum=M.sum - e_ M (e_ ms 0)+min (ab:Int) (e_ M<|e_ ms 0):=by rw [sumL_set om om]
  exact Cb ((List.set M (e_ ms 0).toNat ((min (ab:Int)<|e_ M<|e_ ms 0))),(pa),(pc),(ps))<|by dsimp only;exact ⟨an,om⟩
 refine Aw<|Am ?_
 have an:SinkI (trisE nd es) (trussG nd es) M (List.drop 1 ms):=ax.pass az om
 have bb:(List.drop 1 ms).length=ms.length - 1:=by rw [List.length_drop]
 exact Cb ((M),(ai),(aj),(List.drop 1 ms))<|by dsimp only;exact ⟨an,om⟩
section
variable {nd:Int}{es es':List Pt}{u v:Int}
theorem trusT_at(Z:GrOk nd es)(M:j<es.length):((trusT nd es (e_ es j):Nat):Int)=e_ (trussG nd es) j:=by
 unfold trusT
 rw [idx_eq Z M]
 have:=truss_pos Z (i:=(j:Int)) om om
 omega
structure NxE (nd:Int) (es':List Pt) (k:Nat) (x:Int):Prop where
 low:0<=e_ (trussG nd es') k/\e_ (trussG nd es') k<=x
 up:x<=100
theorem truss_bd64(Z:GrOk nd es)(M:j<es.length):0<=e_ (trussG nd es) j/\e_ (trussG nd es) j<=64:=by
 have h1:=trussG_pos Z (u:=(j:Int)) om (by rw [trussG_lenE Z];omega)
 have:=Z.rng
 omega
theorem find_old(M:GrOk nd es)(Z:GrOk nd es')(hk:k<es'.length)(h:FindP nd es (e_ es' k).u (e_ es' k).v y):(0<=y/\y<es.length/\e_ es y=e_ es' k)\/(y = -1/\e_ es' k∉es):=by
 have hm:=B7 (xs:=es') (i:=(k:Int)) om om
 have hs:=edgeP_self (e:=e_ es' k) (by have:=Z.edge _ hm;omega)
 unfold FindP at h
 rw [hs] at h
 rcases h with ⟨_,j,rfl,hj,e⟩|⟨rfl,h1|h1⟩
 ·exact .inl ⟨by omega,by omega,e⟩
 ·exact absurd (checkG_ok.2 M) h1
 exact .inr ⟨rfl,h1⟩
theorem nx_new(h:OneE nd es es' u v)(Z:k<es'.length)(hf:FindP nd es (e_ es' k).u (e_ es' k).v y)(hy:y<0):NxE nd es' k ((commonG nd es' u v).length:Int):=by
 have hm:=B7 (xs:=es') (i:=(k:Int)) om om
 rcases find_old h.ok h.ok' Z hf with M|⟨_,M⟩
 ·omega
 have e:=((h.mem _).1 hm).resolve_left M
 have h2:=h.truss_new
 have h3:=trusT_at h.ok' Z
 rw [e] at h3
 have h4:=truss_pos h.ok' (i:=(k:Int)) om om
 have h5:=commonG_len nd es' u v
 exact ⟨by omega,by omega⟩
theorem nx_ins(h:OneE nd es es' u v)(Z:k<es'.length)(hf:FindP nd es (e_ es' k).u (e_ es' k).v y)(hy:¬y<0):NxE nd es' k (e_ (trussG nd es) y+1):=by
 rcases find_old h.ok h.ok' Z hf with ⟨h0,h1,e⟩|h1
 ·obtain ⟨j,rfl⟩:=Int.eq_ofNat_of_zero_le h0
  have M:j<es.length:=by omega
  have h2:=(h.truss (e:=e_ es j)<|B7 om om).2
  have h3:=trusT_at h.ok' Z
  rw [←e] at h3
  have h4:=trusT_at h.ok M
  have h5:=truss_pos h.ok' (i:=(k:Int)) om om
  have h6:=truss_bd64 h.ok M
  exact ⟨by omega,by omega⟩
 omega
theorem nx_del(h:OneE nd es es' u v)(Z:k<es.length)(hf:FindP nd es' (e_ es k).u (e_ es k).v y):0<=y/\NxE nd es k (e_ (trussG nd es') y):=by
 have hm:=B7 (xs:=es) (i:=(k:Int)) om om
 rcases find_old h.ok' h.ok Z hf with ⟨h0,h1,e⟩|⟨_,h1⟩
 ·obtain ⟨j,rfl⟩:=Int.eq_ofNat_of_zero_le h0
  have M:j<es'.length:=by omega
  have h2:=(h.truss hm).1
  have h3:=trusT_at h.ok Z
  have h4:=trusT_at h.ok' M
  rw [e] at h4
  have h5:=truss_pos h.ok (i:=(k:Int)) om om
  have h6:=truss_bd64 h.ok' M
  exact ⟨h0,⟨by omega,by omega⟩⟩
 exact absurd ((h.mem _).2 (.inl hm)) h1
structure NxI (nd:Int) (es':List Pt) (k:Nat) (b:List Int):Prop where
 len:b.length=k
 val:∀i:Nat,i<k->NxE nd es' i (e_ b i)
theorem NxI.zero:NxI nd es' 0 []:=⟨rfl,λi h=>absurd h (Nat.not_lt_zero _)⟩
theorem NxI.next(h:NxI nd es' k b)(Z:NxE nd es' k x):NxI nd es' (k+1) (b++[x]):=⟨by rw [length_append,h.len];rfl,λi hi=>by
 by_cases e:i<k
 ·have e1:e_ (b++[x]) i=e_ b i:=by rw [C7 _ i (by rw [length_append,h.len];omega),C7 _ i<|by rw [h.len];exact e,List.getElem_append_left]
  rw [e1];exact h.val i e
 have e2:i=b.length:=by rw [h.len];omega
 have e1:e_ (b++[x]) i=x:=by subst e2;rw [C7 _ _ (by simp)];simp
 rw [e1,show i=k by omega];exact Z⟩
theorem NxI.all(h:NxI nd es' es'.length b):TrB nd es' b/\∀x∈b,0<=x/\x<=1000:=by
 refine ⟨⟨h.len,λi h0 Z=>?_⟩,λx hx=>?_⟩
 ·obtain ⟨j,rfl⟩:=Int.eq_ofNat_of_zero_le h0
  exact (h.val j om).low
 obtain ⟨j,M,rfl⟩:=mem_atN hx
 rw [h.len] at M
 have Z:=h.val j M
 have h2:=Z.low
 have h3:=Z.up
 omega
theorem one_len(h:OneE nd es es' u v):es'.length=es.length+1:=by
 have Z:es'.Perm (edgeP u v::es):=(List.perm_ext_iff_of_nodup (Fe h.ok'.asc)<|List.nodup_cons.2 ⟨h.no,Fe h.ok.asc⟩).2 λp=>by rw [h.mem,List.mem_cons];exact Or.comm
 rw [Z.length_eq];rfl
end
theorem SinkT_ok{κ:Ctx}{I:List Item}{nd:Int}{Z:Option Addr}{M:Nat}{es:List Pt}{bs:List Int}(hl:Sl κ I (.slice ea es.length ec) es)(hG:GrOk nd es)(hB:TrB nd es bs)(aa:∀x∈bs,0<=x/\x<=1000)(hT:TabRd κ I 0 tzCells):eu Tryz.prog κ 288 [.agg #[e7 nd,.slice ea es.length ec],.slice Z bs.length M] (vk 3 Z M bs::I) λr J=>r = .slice Z (trussG nd es).length M/\J=vk 3 Z M (trussG nd es)::I:=by
 have e:bs.length=(trussG nd es).length:=by rw [trussG_lenE hG];exact hB.len
 exact (Sink_ok hl hG hB aa hT).mono λr J h=>⟨h.1.trans<|by rw [e],h.2.trans<|by rw [e]⟩
theorem NextI_ok{κ:Ctx}{I:List Item}{nd u v:Int}{es es':List Pt}(hl:Sl κ I (.slice ea es.length ec) es)(hm:Sl κ I (.slice na (trussG nd es).length nc) (trussG nd es))(Z:Sl κ I (.slice ga es'.length gc) es')(h:OneE nd es es' u v)(hT:TabRd κ I 0 tzCells):eu Tryz.prog κ 287 [.agg #[e7 nd,.slice ea es.length ec,.slice na (trussG nd es).length nc],.agg #[e7 nd,.slice ga es'.length gc],e7 u,e7 v] I (λr J=>∃(a:Option Addr) (c:Nat) (w:Value),r = .tuple #[.agg #[e7 nd,.slice ga es'.length gc,.slice a (trussG nd es').length c],w]/\J=vk 3 a c (trussG nd es')::I):=by
 have a1:=edges_le h.ok
 have az:=edges_le h.ok'
 have a5:=one_len h
 have ab:=trussG_lenE h.ok
 have aa:=trussG_lenE h.ok'
 refine Ce4 Tryz.func287 C C ?_
 refine Ad<|Ge1 (Bd (cs:=[_,_,_]) C C C) λb1=>Ge1 (Bd (cs:=[_,_]) C C C) λb2=>Ge1 (A4 ty41 C) λb3=>Ga C<|Ac<|Ad<|Gf fld38_1 C<|Gl ty36 ?_
 refine Gr (Bk A6 C)<|Gf fld41_0 C<|Gf fld38_1 C<|Gl ty36 ?_
 refine Gr (Bk A6 C)<|Gr (B2 C C)<|Ga C<|Ac<|Ap (S6 10 8 5 4 2 3)<|Ad<|Ga C<|Ac<|Ar<|Ad<|Gf fld38_1 C<|Gl ty36 ?_
 refine Gr (Bk A6 C)<|Gm C<|Ac<|A5<|B1 (σ:=Nat×(Option Addr)×Nat×(List Int)) (λs=>([(2,e7 u),(3,e7 v),(4,pt b1),(5,pt b2),(8,pt b3),(10,.bool<|decide<|((es.length:Nat):Int)<((es'.length:Nat):Int)),(11,.slice s.2.1 s.2.2.2.length s.2.2.1),(25,.slice ga es'.length gc),(26,e7<|((es'.length:Nat):Int)),(27,e7 ((s.1:Nat):Int))]:Env)) (λs=>vk 3 s.2.1 s.2.2.1 s.2.2.2::e8 b3 [e7 0,.slice none 0 0,.slice none 0 0] 41::e8 b2 [e7 nd,.slice ga es'.length gc] 38::e8 b1 [e7 nd,.slice ea es.length ec,.slice na (trussG nd es).length nc] 41::I) (λs=>(s.1<=es'.length)/\(NxI nd es' s.1 s.2.2.2)) (λs=>es'.length - s.1) (0,none,0,([]:List Int)) ⟨om,NxI.zero⟩ (cx4<|cx2<|Aa (C8 C<|by first|rfl|simp)<|cx2<|Aa Cd Bp) (Co (show Fit κ _ _ from Bl)<|Cf (α:=Int) _ _) ?_
 rintro ⟨k,ba,bc,bd⟩ hp
 dsimp only at hp ⊢
 obtain ⟨hk,hb⟩:=hp
 have bb:=hb.len
 refine Ad<|Gr (A9 C C)<|Ac<|Ar<|A7 C (λaq=>?_)<|λaq=>?_
 ·refine Aw (Ah<|Ar<|A5<|Ad<|Gr (A3 (α:=Pt) (xs:=es') A6 ty105 C C (A8 Z) om<|by first|omega|(rcases M with ⟨q1,q2,q3⟩|q1<;>omega))<|Gr (Bv (α:=Pt) (xs:=es') ty105 C (A8 Z) om<|by first|omega|(rcases M with ⟨q1,q2,q3⟩|q1<;>omega))<|Ge1 (A4 ty105 C) λb4=>Ge0 (Cz ty105) ?_)
  refine Ac<|Ap (S11 13 2 3 4 5 8 10 11 25 26 27)<|Ad<|Gf fld41_0 C<|Gl2 ty38 ?_
  refine Gf fld105_0 C<|Gl ef ?_
  refine Gf fld105_1 C<|Gl ef ?_
  refine G.e (Aj c_ C C<|FindG_ok (nd:=nd) (A8 hl) ((e_ es' k).u) ((e_ es' k).v) om) ?_
  rintro _ _ ⟨_,_,⟨y5,rfl,ae,rfl⟩,rfl,rfl⟩
  refine Ga C ?_
  have M:=find_old h.ok h.ok' om ae
  have ai:=λq:0<=y5/\y5<es.length=>truss_bd64 h.ok (j:=(y5).toNat) om
  have ah:=λq:0<=y5=>show (((y5).toNat:Nat):Int)=y5 from Int.toNat_of_nonneg q
  refine Ac<|Ap (S11 14 2 3 4 5 8 10 11 25 26 27)<|A5<|Ad<|Gm C<|Gr (A9 C C)<|Ga C<|Ac<|Ap (S12 46 14 2 3 4 5 8 10 11 25 26 27)<|A7 C (λaj=>?_)<|λaj=>?_
  ·refine Ay (Gm C<|Gl2 ty38 ?_)
   refine Gm C<|Gm C<|Gc2 (Aj c_ C C<|CommonG_ok (nd:=nd) (A8 Z) u v<|Bn hT Ax) λa0 a4=>?_
   have ak:=nx_new h om ae aj
   refine Gr (Bk Af C)<|Ge1 (Ce (α:=Int) (cs:=[_]) (xs:=[(((commonG nd es' u v).length:Nat):Int)]) Af ef C C dc dc C C C C) λa6=>?_
   refine Ge2 (B3 (α:=Int) (e:=3) (xs:=bd) (ys:=([(((commonG nd es' u v).length:Nat):Int)]:List Int)) Af ef C C C mm Bi lcn dc C<|λ_ _=>am) λaw an=>?_
   exact Ga C<|Bj<|Am<|Am<|Ah<|Ap (S10 11 2 3 4 5 8 10 25 26 27)<|Ay<|Gr (Cw C C<|by first|(unfold InR;omega)|rcases M with ⟨q1,q2,q3⟩|q1;(· have q4:=ai ⟨q1,q2⟩;rw [ah q1] at q4;unfold InR;omega);(· omega))<|Gm C<|Bj<|Cb ((k+1),(aw),(an),(bd++([(((commonG nd es' u v).length:Nat):Int)]:List Int)))<|by dsimp only;exact ⟨om,(hb.next ak)⟩
  refine Ad<|Gm C<|Ga C<|Ac<|Ap (S12 57 14 2 3 4 5 8 10 11 25 26 27)<|A7 C (λau=>?_)<|λau=>?_
  ·refine Ay (Gm C<|Gf fld41_1 C<|Gl ty22 ?_)
   refine Gm C<|Gr (A3 (α:=Int) (xs:=trussG nd es) Af ef C C (A8 hm) om<|by first|omega|(rcases M with ⟨q1,q2,q3⟩|q1<;>omega))<|Gr (Bx (xs:=trussG nd es) ef C (A8 hm) om<|by first|omega|(rcases M with ⟨q1,q2,q3⟩|q1<;>omega)) ?_
   have ak:=nx_ins h om ae aj
   refine Gr (Cw C C<|by first|(unfold InR;omega)|rcases M with ⟨q1,q2,q3⟩|q1;(· have q4:=ai ⟨q1,q2⟩;rw [ah q1] at q4;unfold InR;omega);(· omega))<|Ge1 (Ce (α:=Int) (cs:=[_]) (xs:=[(e_ (trussG nd es) y5)+1]) Af ef C C dc dc C C C C) λay=>?_
   refine Ge2 (B3 (α:=Int) (e:=3) (xs:=bd) (ys:=([(e_ (trussG nd es) y5)+1]:List Int)) Af ef C C C mm Bi lcn dc C<|λ_ _=>am) λap ao=>?_
   exact Ga C<|Bj<|Am<|Am<|Ah<|Ap (S10 11 2 3 4 5 8 10 25 26 27)<|Ay<|Gr (Cw C C<|by first|(unfold InR;omega)|rcases M with ⟨q1,q2,q3⟩|q1;(· have q4:=ai ⟨q1,q2⟩;rw [ah q1] at q4;unfold InR;omega);(· omega))<|Gm C<|Bj<|Cb ((k+1),(ap),(ao),(bd++([(e_ (trussG nd es) y5)+1]:List Int)))<|by dsimp only;exact ⟨om,(hb.next ak)⟩
  omega
 refine Bt<|Aq<|Aq<|Bb<|Ah<|Ar<|Bs mixed<|Cc (e8 b3 [e7 0,.slice none 0 0,.slice none 0 0] 41::e8 b2 [e7 nd,.slice ga es'.length gc] 38::e8 b1 [e7 nd,.slice ea es.length ec,.slice na (trussG nd es).length nc] 41::I) 6<|Dr 0 C (Bc (vs:=[_,_]) ty38) ?_
 have ar:k=es'.length:=by omega
 rw [ar] at hb
 have ad:=hb.all
 refine Dr 1 C (Bc (vs:=[_,_]) ty38) ?_
 refine Dr 2 C (Ai C)<|Do (rs:=[3,5]) kr C C<|Eu ?_<|D6 ?_
 ·refine Se C (Aj c_ C C<|Cp (J:=vk 3 ba bc bd::e8 b3 [e7 0,.slice none 0 0,.slice none 0 0] 41::e8 b2 [e7 nd,.slice ga es'.length gc] 38::e8 b1 [e7 nd,.slice ea es.length ec,.slice na (trussG nd es).length nc] 41::I) Bl<|SinkT_ok (nd:=nd) (es:=es') (bs:=bd) (A8 Z) h.ok' ad.1 ad.2<|Bn hT Ax) ?_
  rintro _ _ ⟨_,_,⟨rfl,rfl⟩,rfl,rfl⟩
  refine ⟨Bl,?_⟩
  refine Dr 4 C (Bq (cells:=[_,_,_]) ty41 Dd pl41 C C)<|Ds1 5<|Se1 C (A4 ty41 C) λax=>?_
  refine Cs kr ?_
  refine Ae 6 C (Df ty41) ?_
  rintro _ _ ⟨rfl,rfl⟩
  refine Ct kr ?_
  refine Ah<|Ap (S3 15 4 8)<|Ar<|Bs mixed<|Cc (e8 ax [e7 nd,.slice ga es'.length gc,.slice ba (trussG nd es').length bc] 41::vk 3 ba bc (trussG nd es')::e8 b3 [e7 0,.slice none 0 0,.slice none 0 0] 41::e8 b2 [e7 nd,.slice ga es'.length gc] 38::e8 b1 [e7 nd,.slice ea es.length ec,.slice na (trussG nd es).length nc] 41::I) 4<|Dr 0 C (Bc (vs:=[_,_,_]) ty41) ?_
  refine Do (rs:=[1,2]) kr C C<|Eu ?_<|D6 ?_
  ·refine Sr C (Bc (vs:=[_,_,_]) ty41) Bg ?_
   refine Ds1 2<|Sr C (Bc (vs:=[_,_,_]) ty41) Bg ?_
   refine Ds1 3<|Se C (Aj c_ C C<|MChanged_ok (nd:=nd) (nd':=nd) (es:=es) (es':=es') (num:=trussG nd es) (num':=trussG nd es') (A8 hl) (A8 hm) (A8 Z) Bi om om ab aa) ?_
   rintro _ _ ⟨_,_,⟨a7,rfl,rfl⟩,rfl,rfl⟩
   refine ⟨Bg,?_⟩
   refine Cs kr ?_
   refine Ae 4 C (Df ty41) ?_
   rintro _ _ ⟨rfl,rfl⟩
   refine Dv (i:=5) kr C (Bm C) C C (Bf C) ?_
   refine Ct kr ?_
   exact Ah<|Az<|C0 C ty41 C C mm C (vk 3 ba bc (trussG nd es')::I) Bl ⟨ba,bc,_,rfl,rfl⟩
  refine Sr C (Bc (vs:=[_,_,_]) ty41) Bg ?_
  refine Ds1 1<|Sr C (Bc (vs:=[_,_,_]) ty41) Bg ?_
  refine Ds1 3<|Se C (Aj c_ C C<|MChanged_ok (nd:=nd) (nd':=nd) (es:=es) (es':=es') (num:=trussG nd es) (num':=trussG nd es') (A8 hl) (A8 hm) (A8 Z) Bi om om ab aa) ?_
  rintro _ _ ⟨_,_,⟨a3,rfl,rfl⟩,rfl,rfl⟩
  refine ⟨Bg,?_⟩
  refine Cs kr ?_
  refine Ae 4 C (Df ty41) ?_
  rintro _ _ ⟨rfl,rfl⟩
  refine Dv (i:=5) kr C (Bm C) C C (Bf C) ?_
  refine Ct kr ?_
  exact Ah<|Az<|C0 C ty41 C C mm C (vk 3 ba bc (trussG nd es')::I) Bl ⟨ba,bc,_,rfl,rfl⟩
 refine Se1 C (A4 ty41 C) λav=>?_
 refine Ds1 3<|Se C (Aj c_ C C<|Cp (J:=vk 3 ba bc bd::e8 av [e7 0,.slice none 0 0,.slice none 0 0] 41::e8 b3 [e7 0,.slice none 0 0,.slice none 0 0] 41::e8 b2 [e7 nd,.slice ga es'.length gc] 38::e8 b1 [e7 nd,.slice ea es.length ec,.slice na (trussG nd es).length nc] 41::I) Bl<|SinkT_ok (nd:=nd) (es:=es') (bs:=bd) (A8 Z) h.ok' ad.1 ad.2<|Bn hT Ax) ?_
 rintro _ _ ⟨_,_,⟨rfl,rfl⟩,rfl,rfl⟩
 refine ⟨Bl,?_⟩
 refine Dr 4 C (Bq (cells:=[_,_,_]) ty41 Dd pl41 C C)<|Cs kr ?_
 refine Ae 6 C (Df ty41) ?_
 rintro _ _ ⟨rfl,rfl⟩
 refine Ct kr ?_
 refine Ah<|Ap (S3 15 4 8)<|Ar<|Bs mixed<|El 4<|Dr 0 C (Bc (vs:=[_,_,_]) ty41) ?_
 refine Do (rs:=[1,2]) kr C C<|Eu ?_<|D6 ?_
 ·refine Sr C (Bc (vs:=[_,_,_]) ty41) Bg ?_
  refine Ds1 2<|Sr C (Bc (vs:=[_,_,_]) ty41) Bg ?_
  refine Ds1 3<|Se C (Aj c_ C C<|MChanged_ok (nd:=nd) (nd':=nd) (es:=es) (es':=es') (num:=trussG nd es) (num':=trussG nd es') (A8 hl) (A8 hm) (A8 Z) Bi om om ab aa) ?_
  rintro _ _ ⟨_,_,⟨a8,rfl,rfl⟩,rfl,rfl⟩
  refine ⟨Bg,?_⟩
  refine Cs kr ?_
  refine Ae 4 C (Df ty41) ?_
  rintro _ _ ⟨rfl,rfl⟩
  refine Dv (i:=5) kr C (Bm C) C C (Bf C) ?_
  refine Ct kr ?_
  exact Ah<|Az<|C0 C ty41 C C mm C (vk 3 ba bc (trussG nd es')::I) Bl ⟨ba,bc,_,rfl,rfl⟩
 refine Sr C (Bc (vs:=[_,_,_]) ty41) Bg ?_
 refine Ds1 1<|Sr C (Bc (vs:=[_,_,_]) ty41) Bg ?_
 refine Ds1 3<|Se C (Aj c_ C C<|MChanged_ok (nd:=nd) (nd':=nd) (es:=es) (es':=es') (num:=trussG nd es) (num':=trussG nd es') (A8 hl) (A8 hm) (A8 Z) Bi om om ab aa) ?_
 rintro _ _ ⟨_,_,⟨a9,rfl,rfl⟩,rfl,rfl⟩
 refine ⟨Bg,?_⟩
 refine Cs kr ?_
 refine Ae 4 C (Df ty41) ?_
 rintro _ _ ⟨rfl,rfl⟩
 refine Dv (i:=5) kr C (Bm C) C C (Bf C) ?_
 refine Ct kr ?_
 exact Ah<|Az<|C0 C ty41 C C mm C (vk 3 ba bc (trussG nd es')::I) Bl ⟨ba,bc,_,rfl,rfl⟩
theorem NextD_ok{κ:Ctx}{I:List Item}{nd u v:Int}{es es':List Pt}(hl:Sl κ I (.slice ea es.length ec) es)(hm:Sl κ I (.slice na (trussG nd es).length nc) (trussG nd es))(Z:Sl κ I (.slice ga es'.length gc) es')(h:OneE nd es' es u v)(hT:TabRd κ I 0 tzCells):eu Tryz.prog κ 287 [.agg #[e7 nd,.slice ea es.length ec,.slice na (trussG nd es).length nc],.agg #[e7 nd,.slice ga es'.length gc],e7 u,e7 v] I (λr J=>∃(a:Option Addr) (c:Nat) (w:Value),r = .tuple #[.agg #[e7 nd,.slice ga es'.length gc,.slice a (trussG nd es').length c],w]/\J=vk 3 a c (trussG nd es')::I):=by
 have ax:=edges_le h.ok'
 have av:=edges_le h.ok
 have ay:=one_len h
 have ab:=trussG_lenE h.ok'
 have M:=trussG_lenE h.ok
 refine Ce4 Tryz.func287 C C ?_
 refine Ad<|Ge1 (Bd (cs:=[_,_,_]) C C C) λb1=>Ge1 (Bd (cs:=[_,_]) C C C) λb2=>Ge1 (A4 ty41 C) λb3=>Ga C<|Ac<|Ad<|Gf fld38_1 C<|Gl ty36 ?_
 refine Gr (Bk A6 C)<|Gf fld41_0 C<|Gf fld38_1 C<|Gl ty36 ?_
 refine Gr (Bk A6 C)<|Gr (B2 C C)<|Ga C<|Ac<|Ap (S6 10 8 5 4 2 3)<|Ad<|Ga C<|Ac<|Ar<|Ad<|Gf fld38_1 C<|Gl ty36 ?_
 refine Gr (Bk A6 C)<|Gm C<|Ac<|A5<|B1 (σ:=Nat×(Option Addr)×Nat×(List Int)) (λs=>([(2,e7 u),(3,e7 v),(4,pt b1),(5,pt b2),(8,pt b3),(10,.bool<|decide<|((es.length:Nat):Int)<((es'.length:Nat):Int)),(11,.slice s.2.1 s.2.2.2.length s.2.2.1),(25,.slice ga es'.length gc),(26,e7<|((es'.length:Nat):Int)),(27,e7 ((s.1:Nat):Int))]:Env)) (λs=>vk 3 s.2.1 s.2.2.1 s.2.2.2::e8 b3 [e7 0,.slice none 0 0,.slice none 0 0] 41::e8 b2 [e7 nd,.slice ga es'.length gc] 38::e8 b1 [e7 nd,.slice ea es.length ec,.slice na (trussG nd es).length nc] 41::I) (λs=>(s.1<=es'.length)/\(NxI nd es' s.1 s.2.2.2)) (λs=>es'.length - s.1) (0,none,0,([]:List Int)) ⟨om,NxI.zero⟩ (cx4<|cx2<|Aa (C8 C<|by first|rfl|simp)<|cx2<|Aa Cd Bp) (Co (show Fit κ _ _ from Bl)<|Cf (α:=Int) _ _) ?_
 rintro ⟨k,ba,bc,bd⟩ hp
 dsimp only at hp ⊢
 obtain ⟨hk,hb⟩:=hp
 have a4:=hb.len
 refine Ad<|Gr (A9 C C)<|Ac<|Ar<|A7 C (λan=>?_)<|λan=>?_
 ·refine Aw (Ah<|Ar<|A5<|Ad<|Gr (A3 (α:=Pt) (xs:=es') A6 ty105 C C (A8 Z) om<|by first|omega|(rcases aa with ⟨q1,q2,q3⟩|q1<;>omega))<|Gr (Bv (α:=Pt) (xs:=es') ty105 C (A8 Z) om<|by first|omega|(rcases aa with ⟨q1,q2,q3⟩|q1<;>omega))<|Ge1 (A4 ty105 C) λb4=>Ge0 (Cz ty105) ?_)
  refine Ac<|Ap (S11 13 2 3 4 5 8 10 11 25 26 27)<|Ad<|Gf fld41_0 C<|Gl2 ty38 ?_
  refine Gf fld105_0 C<|Gl ef ?_
  refine Gf fld105_1 C<|Gl ef ?_
  refine G.e (Aj c_ C C<|FindG_ok (nd:=nd) (A8 hl) ((e_ es' k).u) ((e_ es' k).v) om) ?_
  rintro _ _ ⟨_,_,⟨y5,rfl,ae,rfl⟩,rfl,rfl⟩
  refine Ga C ?_
  have aa:=find_old h.ok' h.ok om ae
  have ai:=λq:0<=y5/\y5<es.length=>truss_bd64 h.ok' (j:=(y5).toNat) om
  have ar:=λq:0<=y5=>show (((y5).toNat:Nat):Int)=y5 from Int.toNat_of_nonneg q
  refine Ac<|Ap (S11 14 2 3 4 5 8 10 11 25 26 27)<|A5<|Ad<|Gm C<|Gr (A9 C C)<|Ga C<|Ac<|Ap (S12 46 14 2 3 4 5 8 10 11 25 26 27)<|A7 C (λaj=>?_)<|λaj=>?_
  ·exact absurd (nx_del h om ae).1 om
  refine Ad<|Gm C<|Ga C<|Ac<|Ap (S12 57 14 2 3 4 5 8 10 11 25 26 27)<|A7 C (λap=>?_)<|λap=>?_
  ·omega
  refine Ay<|Gm C<|Gf fld41_1 C<|Gl ty22 ?_
  refine Gm C<|Gr (A3 (α:=Int) (xs:=trussG nd es) Af ef C C (A8 hm) om<|by first|omega|(rcases aa with ⟨q1,q2,q3⟩|q1<;>omega))<|Gr (Bx (xs:=trussG nd es) ef C (A8 hm) om<|by first|omega|(rcases aa with ⟨q1,q2,q3⟩|q1<;>omega)) ?_
  have ak:=(nx_del h om ae).2
  refine Ge1 (Ce (α:=Int) (cs:=[_]) (xs:=[e_ (trussG nd es) y5]) Af ef C C dc dc C C C C) λa0=>?_
  refine Ge2 (B3 (α:=Int) (e:=3) (xs:=bd) (ys:=([e_ (trussG nd es) y5]:List Int)) Af ef C C C mm Bi lcn dc C<|λ_ _=>am) λau ao=>?_
  exact Ga C<|Bj<|Am<|Am<|Ah<|Ap (S10 11 2 3 4 5 8 10 25 26 27)<|Ay<|Gr (Cw C C<|by first|(unfold InR;omega)|rcases aa with ⟨q1,q2,q3⟩|q1;(· have q4:=ai ⟨q1,q2⟩;rw [ar q1] at q4;unfold InR;omega);(· omega))<|Gm C<|Bj<|Cb ((k+1),(au),(ao),(bd++([e_ (trussG nd es) y5]:List Int)))<|by dsimp only;exact ⟨om,(hb.next ak)⟩
 refine Bt<|Aq<|Aq<|Bb<|Ah<|Ar<|Bs mixed<|Cc (e8 b3 [e7 0,.slice none 0 0,.slice none 0 0] 41::e8 b2 [e7 nd,.slice ga es'.length gc] 38::e8 b1 [e7 nd,.slice ea es.length ec,.slice na (trussG nd es).length nc] 41::I) 6<|Dr 0 C (Bc (vs:=[_,_]) ty38) ?_
 have ah:k=es'.length:=by omega
 rw [ah] at hb
 have ad:=hb.all
 refine Dr 1 C (Bc (vs:=[_,_]) ty38) ?_
 refine Dr 2 C (Ai C)<|Do (rs:=[3,5]) kr C C<|Eu ?_<|D6 ?_
 ·refine Se C (Aj c_ C C<|Cp (J:=vk 3 ba bc bd::e8 b3 [e7 0,.slice none 0 0,.slice none 0 0] 41::e8 b2 [e7 nd,.slice ga es'.length gc] 38::e8 b1 [e7 nd,.slice ea es.length ec,.slice na (trussG nd es).length nc] 41::I) Bl<|SinkT_ok (nd:=nd) (es:=es') (bs:=bd) (A8 Z) h.ok ad.1 ad.2<|Bn hT Ax) ?_
  rintro _ _ ⟨_,_,⟨rfl,rfl⟩,rfl,rfl⟩
  refine ⟨Bl,?_⟩
  refine Dr 4 C (Bq (cells:=[_,_,_]) ty41 Dd pl41 C C)<|Ds1 5<|Se1 C (A4 ty41 C) λb9=>?_
  refine Cs kr ?_
  refine Ae 6 C (Df ty41) ?_
  rintro _ _ ⟨rfl,rfl⟩
  refine Ct kr ?_
  refine Ah<|Ap (S3 15 4 8)<|Ar<|Bs mixed<|Cc (e8 b9 [e7 nd,.slice ga es'.length gc,.slice ba (trussG nd es').length bc] 41::vk 3 ba bc (trussG nd es')::e8 b3 [e7 0,.slice none 0 0,.slice none 0 0] 41::e8 b2 [e7 nd,.slice ga es'.length gc] 38::e8 b1 [e7 nd,.slice ea es.length ec,.slice na (trussG nd es).length nc] 41::I) 4<|Dr 0 C (Bc (vs:=[_,_,_]) ty41) ?_
  refine Do (rs:=[1,2]) kr C C<|Eu ?_<|D6 ?_
  ·refine Sr C (Bc (vs:=[_,_,_]) ty41) Bg ?_
   refine Ds1 2<|Sr C (Bc (vs:=[_,_,_]) ty41) Bg ?_
   refine Ds1 3<|Se C (Aj c_ C C<|MChanged_ok (nd:=nd) (nd':=nd) (es:=es) (es':=es') (num:=trussG nd es) (num':=trussG nd es') (A8 hl) (A8 hm) (A8 Z) Bi om om ab M) ?_
   rintro _ _ ⟨_,_,⟨aw,rfl,rfl⟩,rfl,rfl⟩
   refine ⟨Bg,?_⟩
   refine Cs kr ?_
   refine Ae 4 C (Df ty41) ?_
   rintro _ _ ⟨rfl,rfl⟩
   refine Dv (i:=5) kr C (Bm C) C C (Bf C) ?_
   refine Ct kr ?_
   exact Ah<|Az<|C0 C ty41 C C mm C (vk 3 ba bc (trussG nd es')::I) Bl ⟨ba,bc,_,rfl,rfl⟩
  refine Sr C (Bc (vs:=[_,_,_]) ty41) Bg ?_
  refine Ds1 1<|Sr C (Bc (vs:=[_,_,_]) ty41) Bg ?_
  refine Ds1 3<|Se C (Aj c_ C C<|MChanged_ok (nd:=nd) (nd':=nd) (es:=es) (es':=es') (num:=trussG nd es) (num':=trussG nd es') (A8 hl) (A8 hm) (A8 Z) Bi om om ab M) ?_
  rintro _ _ ⟨_,_,⟨az,rfl,rfl⟩,rfl,rfl⟩
  refine ⟨Bg,?_⟩
  refine Cs kr ?_
  refine Ae 4 C (Df ty41) ?_
  rintro _ _ ⟨rfl,rfl⟩
  refine Dv (i:=5) kr C (Bm C) C C (Bf C) ?_
  refine Ct kr ?_
  exact Ah<|Az<|C0 C ty41 C C mm C (vk 3 ba bc (trussG nd es')::I) Bl ⟨ba,bc,_,rfl,rfl⟩
 refine Se1 C (A4 ty41 C) λaq=>?_
 refine Ds1 3<|Se C (Aj c_ C C<|Cp (J:=vk 3 ba bc bd::e8 aq [e7 0,.slice none 0 0,.slice none 0 0] 41::e8 b3 [e7 0,.slice none 0 0,.slice none 0 0] 41::e8 b2 [e7 nd,.slice ga es'.length gc] 38::e8 b1 [e7 nd,.slice ea es.length ec,.slice na (trussG nd es).length nc] 41::I) Bl<|SinkT_ok (nd:=nd) (es:=es') (bs:=bd) (A8 Z) h.ok ad.1 ad.2<|Bn hT Ax) ?_
 rintro _ _ ⟨_,_,⟨rfl,rfl⟩,rfl,rfl⟩
 refine ⟨Bl,?_⟩
 refine Dr 4 C (Bq (cells:=[_,_,_]) ty41 Dd pl41 C C)<|Cs kr ?_
 refine Ae 6 C (Df ty41) ?_
 rintro _ _ ⟨rfl,rfl⟩
 refine Ct kr ?_
 refine Ah<|Ap (S3 15 4 8)<|Ar<|Bs mixed<|El 4<|Dr 0 C (Bc (vs:=[_,_,_]) ty41) ?_
 refine Do (rs:=[1,2]) kr C C<|Eu ?_<|D6 ?_
 ·refine Sr C (Bc (vs:=[_,_,_]) ty41) Bg ?_
  refine Ds1 2<|Sr C (Bc (vs:=[_,_,_]) ty41) Bg ?_
  refine Ds1 3<|Se C (Aj c_ C C<|MChanged_ok (nd:=nd) (nd':=nd) (es:=es) (es':=es') (num:=trussG nd es) (num':=trussG nd es') (A8 hl) (A8 hm) (A8 Z) Bi om om ab M) ?_
  rintro _ _ ⟨_,_,⟨a3,rfl,rfl⟩,rfl,rfl⟩
  refine ⟨Bg,?_⟩
  refine Cs kr ?_
  refine Ae 4 C (Df ty41) ?_
  rintro _ _ ⟨rfl,rfl⟩
  refine Dv (i:=5) kr C (Bm C) C C (Bf C) ?_
  refine Ct kr ?_
  exact Ah<|Az<|C0 C ty41 C C mm C (vk 3 ba bc (trussG nd es')::I) Bl ⟨ba,bc,_,rfl,rfl⟩
 refine Sr C (Bc (vs:=[_,_,_]) ty41) Bg ?_
 refine Ds1 1<|Sr C (Bc (vs:=[_,_,_]) ty41) Bg ?_
 refine Ds1 3<|Se C (Aj c_ C C<|MChanged_ok (nd:=nd) (nd':=nd) (es:=es) (es':=es') (num:=trussG nd es) (num':=trussG nd es') (A8 hl) (A8 hm) (A8 Z) Bi om om ab M) ?_
 rintro _ _ ⟨_,_,⟨a1,rfl,rfl⟩,rfl,rfl⟩
 refine ⟨Bg,?_⟩
 refine Cs kr ?_
 refine Ae 4 C (Df ty41) ?_
 rintro _ _ ⟨rfl,rfl⟩
 refine Dv (i:=5) kr C (Bm C) C C (Bf C) ?_
 refine Ct kr ?_
 exact Ah<|Az<|C0 C ty41 C C mm C (vk 3 ba bc (trussG nd es')::I) Bl ⟨ba,bc,_,rfl,rfl⟩
variable {κ:Ctx}{I:List Item}
theorem MInsert_ok{nd:Int}{es:List Pt}(hl:Sl κ I (.slice ea es.length ec) es)(hm:Sl κ I (.slice na (trussG nd es).length nc) (trussG nd es))(hG:GrOk nd es){u v:Int}(he:endsP nd u v)(hn:edgeP u v∉es)(hT:TabRd κ I 0 tzCells):eu Tryz.prog κ 283 [.agg #[e7 nd,.slice ea es.length ec,.slice na (trussG nd es).length nc],e7 u,e7 v] I (λr J=>∃(ga:Option Addr) (gc:Nat) (a:Option Addr) (c:Nat) (w:Value),r = .tuple #[.agg #[e7 nd,.slice ga (insB Pt.lt es (edgeP u v)).length gc,.slice a (trussG nd (insB Pt.lt es (edgeP u v))).length c],w,e7 0]/\J=vk 3 a c (trussG nd (insB Pt.lt es (edgeP u v)))::vk 105 ga gc (insB Pt.lt es (edgeP u v))::I):=by
 refine Ce3 Tryz.func283 C C ?_
 refine Ad<|Ge1 (Bd (cs:=[_,_,_]) C C C) λb1=>Ge1 (A4 ty41 C) λb2=>Ga C<|Ga C<|Ac<|Ar<|Ad<|Gl3 ty41 ?_
 refine Gm C<|Gm C<|Gc0 (Aj c_ C C<|MAsked_ok (nd:=nd) (u:=u) (v:=v) (A8 hl) (A8 hm) hG he<|Bn hT Ax) ?_
 refine Ga C<|Ac<|Ad<|Gm C<|Gr (Be C C)<|Ac<|Ap (S6 19 9 6 3 1 2)<|A7 C (λad=>?_)<|λad=>?_
 ·refine Ad (Gr (Bq (cells:=[_,_,_]) ty41 Dd pl41 C C)<|Gm C<|Ge0 (Df ty41) ?_)
  refine Ga C<|Ga C<|Ac<|Az<|Ao ?_
  exact absurd rfl asm
 refine Aw<|Ah<|Ad<|Gf fld41_0 C<|Gl2 ty38 ?_
 refine Gm C<|Gm C<|G.e (Aj c_ C C<|AddG_yes (nd:=nd) (u:=u) (v:=v) (A8 hl) (add_zero hG he hn)<|by have:=edges_le hG;omega) ?_
 rintro _ _ ⟨_,_,⟨ab,M,rfl,rfl⟩,rfl,rfl⟩
 refine Gm C<|Gr (Ak C C)<|Gr (Ak C C)<|Ge1 (A4 ty38 C) λb5=>Ge0 (Cz ty38) ?_
 refine Ga C<|Ac<|Ap (S6 11 10 6 3 1 2)<|Ar<|Ad<|Gm C<|Gr (Be C C)<|Ac<|A7 C (λae=>?_)<|λae=>?_
 ·refine Ad (Gr (Bq (cells:=[_,_,_]) ty41 Dd pl41 C C)<|Gm C<|Ge0 (Df ty41) ?_)
  refine Ga C<|Ga C<|Ac<|Az<|Ao ?_
  exact absurd rfl asm
 refine Aw<|Ah<|Ad<|Gl3 ty41 ?_
 refine Gl2 ty38 ?_
 refine Gm C<|Gm C<|G.e (Aj c_ C C<|NextI_ok (nd:=nd) (u:=u) (v:=v) (A8 hl) (A8 hm) Bi (OneE.add hG he hn)<|Bn hT Ax) ?_
 rintro _ _ ⟨_,_,⟨Z,aa,w8,rfl,rfl⟩,rfl,rfl⟩
 refine Gm C<|Gr (Ak C C)<|Gr (Ak C C)<|Ge1 (A4 ty41 C) λb9=>Ge0 (Df ty41) ?_
 refine Ga C<|Ac<|Ap (S3 13 12 6)<|Ad<|Gl3 ty41 ?_
 refine Gm C<|Ge0 (Df ty41) ?_
 exact Ga C<|Ga C<|Ac<|Az<|Cy C ty41 C C C mm C (vk 3 Z aa (trussG nd<|insB Pt.lt es<|edgeP u v)::vk 105 ab M (insB Pt.lt es<|edgeP u v)::I) Bl ⟨ab,M,Z,aa,_,rfl,rfl⟩
theorem MDelete_ok{nd:Int}{es:List Pt}(hl:Sl κ I (.slice ea es.length ec) es)(hm:Sl κ I (.slice na (trussG nd es).length nc) (trussG nd es))(hG:GrOk nd es){u v:Int}(he:endsP nd u v)(hn:edgeP u v∈es)(hT:TabRd κ I 0 tzCells):eu Tryz.prog κ 284 [.agg #[e7 nd,.slice ea es.length ec,.slice na (trussG nd es).length nc],e7 u,e7 v] I (λr J=>∃(ga:Option Addr) (gc:Nat) (a:Option Addr) (c:Nat) (w:Value),r = .tuple #[.agg #[e7 nd,.slice ga (without es (edgeP u v)).length gc,.slice a (trussG nd (without es (edgeP u v))).length c],w,e7 0]/\J=vk 3 a c (trussG nd (without es (edgeP u v)))::vk 105 ga gc (without es (edgeP u v))::I):=by
 refine Ce3 Tryz.func284 C C ?_
 refine Ad<|Ge1 (Bd (cs:=[_,_,_]) C C C) λb1=>Ge1 (A4 ty41 C) λb2=>Ga C<|Ga C<|Ac<|Ar<|Ad<|Gl3 ty41 ?_
 refine Gm C<|Gm C<|Gc0 (Aj c_ C C<|MAsked_ok (nd:=nd) (u:=u) (v:=v) (A8 hl) (A8 hm) hG he<|Bn hT Ax) ?_
 refine Ga C<|Ac<|Ad<|Gm C<|Gr (Be C C)<|Ac<|Ap (S6 19 9 6 3 1 2)<|A7 C (λad=>?_)<|λad=>?_
 ·refine Ad (Gr (Bq (cells:=[_,_,_]) ty41 Dd pl41 C C)<|Gm C<|Ge0 (Df ty41) ?_)
  refine Ga C<|Ga C<|Ac<|Az<|Ao ?_
  exact absurd rfl asm
 refine Aw<|Ah<|Ad<|Gf fld41_0 C<|Gl2 ty38 ?_
 refine Gm C<|Gm C<|Gc2 (Aj c_ C C<|RemG_yes (nd:=nd) (u:=u) (v:=v) (A8 hl) (rem_zero hG he hn)<|by have:=edges_le hG;omega) λab M=>?_
 refine Gm C<|Gr (Ak C C)<|Gr (Ak C C)<|Ge1 (A4 ty38 C) λb5=>Ge0 (Cz ty38) ?_
 refine Ga C<|Ac<|Ap (S6 11 10 6 3 1 2)<|Ar<|Ad<|Gm C<|Gr (Be C C)<|Ac<|A7 C (λae=>?_)<|λae=>?_
 ·refine Ad (Gr (Bq (cells:=[_,_,_]) ty41 Dd pl41 C C)<|Gm C<|Ge0 (Df ty41) ?_)
  refine Ga C<|Ga C<|Ac<|Az<|Ao ?_
  exact absurd rfl asm
 refine Aw<|Ah<|Ad<|Gl3 ty41 ?_
 refine Gl2 ty38 ?_
 refine Gm C<|Gm C<|G.e (Aj c_ C C<|NextD_ok (nd:=nd) (u:=u) (v:=v) (A8 hl) (A8 hm) Bi (OneE.rem hG he hn)<|Bn hT Ax) ?_
 rintro _ _ ⟨_,_,⟨Z,aa,w8,rfl,rfl⟩,rfl,rfl⟩
 refine Gm C<|Gr (Ak C C)<|Gr (Ak C C)<|Ge1 (A4 ty41 C) λb9=>Ge0 (Df ty41) ?_
 refine Ga C<|Ac<|Ap (S3 13 12 6)<|Ad<|Gl3 ty41 ?_
 refine Gm C<|Ge0 (Df ty41) ?_
 exact Ga C<|Ga C<|Ac<|Az<|Cy C ty41 C C C mm C (vk 3 Z aa (trussG nd<|without es<|edgeP u v)::vk 105 ab M (without es<|edgeP u v)::I) Bl ⟨ab,M,Z,aa,_,rfl,rfl⟩
end Go.Sl
