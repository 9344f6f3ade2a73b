/- A part of the proofs of statements of this seat: contracts of functions, and the plain laws that they lean on. No conditions. -/
import Derived.Test.YtoagcglbkeomgaaGreatDoorQ17
set_option linter.unusedVariables false
set_option linter.unusedSimpArgs false
set_option linter.unusedSectionVars false
set_option maxHeartbeats 4000000
namespace Go.Sl
open Go.Proofs
set_option maxRecDepth 4000
variable{a x y:Int}{ec gc j k nc:Nat}{M ea ga na:Option Addr}{b:List Int}
section
variable {nd u v:Int}{es:List Pt}
theorem nb_edge(Z:GrOk nd es):y∈nbG nd es x↔edgeP x y∈es:=by
 rw [mem_nb Z]
 constructor
 ·rintro (h|h)
  ·have:=(Z.edge _ h).2.1
   simp only at this
   have e:edgeP x y=⟨x,y⟩:=by unfold edgeP;rw [if_neg om,if_pos this]
   rw [e];exact h
  have:=(Z.edge _ h).2.1
  simp only at this
  have e:edgeP x y=⟨y,x⟩:=by unfold edgeP;rw [if_pos this,if_neg om]
  rw [e];exact h
 intro h
 have hlt:=(Z.edge _ h).2.1
 rcases Int.lt_trichotomy x y with h1|h1|h1
 ·have e:edgeP x y=⟨x,y⟩:=by unfold edgeP;rw [if_neg om,if_pos h1]
  exact .inl<|e▸h
 ·subst h1;unfold edgeP at hlt;simp at hlt
 have e:edgeP x y=⟨y,x⟩:=by unfold edgeP;rw [if_pos h1,if_neg om]
 exact .inr<|e▸h
theorem find_nb(Z:GrOk nd es){b:Int}(h:FindP nd es a b y):0<=y↔b∈nbG nd es a:=by
 rw [nb_edge Z]
 rcases h with ⟨_,j,rfl,hj,e⟩|⟨rfl,h|h⟩
 ·exact ⟨λ_=>e▸Ca om om,λ_=>by omega⟩
 ·exact absurd (checkG_ok.2 Z) h
 exact ⟨λh=>by omega,λM=>absurd M h⟩
theorem fm_take{α β:Type}[Inhabited α](f:α->List β)(xs:List α)(Z:k<xs.length):(xs.take (k+1)).flatMap f=(xs.take k).flatMap f++f (e_ xs k):=by
 rw [Cl xs k Z,List.flatMap_append];simp
def ovrK(nd:Int)(es:List Pt)(u v a:Int)(k:Nat):List Pt:=(((nbG nd es v).take k).filter λb=>decide (b≠u/\b∈nbG nd es a)).map λb=>(⟨a,b⟩:Pt)
theorem ovrK_yes(Z:k<(nbG nd es v).length)(h:e_ (nbG nd es v) k≠u/\e_ (nbG nd es v) k∈nbG nd es a):ovrK nd es u v a (k+1)=ovrK nd es u v a k++[(⟨a,e_ (nbG nd es v) k⟩:Pt)]:=by
 unfold ovrK
 rw [Cl _ k Z,List.filter_append,List.filter_cons,if_pos<|decide_eq_true h,List.map_append];rfl
theorem ovrK_no(Z:k<(nbG nd es v).length)(h:¬(e_ (nbG nd es v) k≠u/\e_ (nbG nd es v) k∈nbG nd es a)):ovrK nd es u v a (k+1)=ovrK nd es u v a k:=by
 unfold ovrK
 rw [Cl _ k Z,List.filter_append,List.filter_cons,if_neg<|λq=>h<|of_decide_eq_true q];simp
theorem ovrK_all(h:a≠v):ovrK nd es u v a (nbG nd es v).length=overR nd es u v a:=by
 unfold ovrK overR
 rw [List.take_length,if_neg h]
theorem overR_v(h:a=v):overR nd es u v a=[]:=by unfold overR;rw [if_pos h]
end
theorem Over_ok{κ:Ctx}{I:List Item}{nd u v:Int}{va:Value}{es:List Pt}(hl:Sl κ I va es)(hG:GrOk nd es)(hT:TabRd κ I 0 tzCells):eu Tryz.prog κ 308 [.agg #[e7 nd,va],e7 u,e7 v] I (λr J=>∃a c,r = .slice a (overL nd es u v).length c/\J=vc 200 (.slice a (overL nd es u v).length c) (overL nd es u v)::I):=by
 have aw:=edges_le hG
 refine Ce3 Tryz.func308 C C ?_
 refine Af<|Ge1 (Bc (cs:=[_,_]) C C C) λb1=>Ga C<|Ad<|Af<|Ga C<|Ad<|Ap<|Af<|Gl2 ty38 ?_
 refine Gm C<|Gc2 (Aj c_ C C<|NeighG_ok (nd:=nd) (A6 hl) u<|Bg hT Av) λM aa=>?_
 refine Gr (Bj Ab C)<|Gm C<|Ad<|A0<|B1 (σ:=Nat×(Option Addr)×Nat×(List Pt)) (λs=>([(1,e7 u),(2,e7 v),(3,.pointer<|some ⟨b1,0,none⟩),(7,.slice s.2.1 s.2.2.2.length s.2.2.1),(14,.slice M (nbG nd es u).length aa),(15,e7<|(((nbG nd es u).length:Nat):Int)),(16,e7 ((s.1:Nat):Int))]:Env)) (λs=>vc 200 (.slice s.2.1 s.2.2.2.length s.2.2.1) (s.2.2.2)::vc 3 (.slice M (nbG nd es u).length aa) (nbG nd es u)::e8 b1 [e7 nd,va] 38::I) (λs=>(s.1<=(nbG nd es u).length)/\(s.2.2.2=((nbG nd es u).take s.1).flatMap (overR nd es u v))/\(s.2.2.2.length<=64*s.1)) (λs=>(nbG nd es u).length - s.1) (0,none,0,[]) ⟨om,rfl,(by simp)⟩ (Aa C<|Aa C<|Aa C<|Aa (Dd C<|by first|rfl|simp)<|Aa C<|Aa C<|Aa Cd Bl) (Cv (show Fit κ _ _ from Bm)<|Cm (α:=Pt) _ _) ?_
 rintro ⟨k,oa,oc,o⟩ hp
 dsimp only at hp ⊢
 obtain ⟨hk,ho,av⟩:=hp
 have aq:=nbG_len nd es u
 have ap:=nbG_len nd es v
 refine Af<|Gr (Bb C C)<|Ad<|Ap<|A8 C (λai=>?_)<|λai=>?_
 ·refine Aw (Ah<|Ap<|A0<|Af<|Gr (Az (α:=Int) (xs:=nbG nd es u) Ab ef C C Bh om om)<|Gr (Bw (xs:=nbG nd es u) ef C Bh om om)<|Ga C<|Ad<|Ap<|Af<|Gm C<|Gm C<|Gr (Bs C C)<|Ad<|Am (S9 22 9 1 2 3 7 14 15 16 C C C C C C C C C)<|A8 C (λak=>?_)<|λak=>?_)
  ·exact Bx<|Ao<|A9<|Ah<|Au<|Gr (Rad C C)<|Gm C<|Bo<|Cf ((k+1),(oa),(oc),(o))<|by dsimp only;exact ⟨om,(by rw [fm_take _ _ om,←ho];first|(rw [overR_v asm];simp;done)|(rw [Z,show k2=(nbG nd es v).length by omega,ovrK_all asm])),om⟩
  refine Aw<|Ah<|Af<|Gl2 ty38 ?_
  refine Gm C<|Gc2 (Aj c_ C C<|NeighG_ok (nd:=nd) (A6 hl) v<|Bg hT Av) λab ad=>?_
  refine Gr (Bj Ab C)<|Gm C<|Ad<|Am (S11 27 26 25 9 1 2 3 7 14 15 16 C C C C C C C C C C C)<|A0<|B1 (σ:=Nat×(Option Addr)×Nat×(List Pt)) (λs=>([(1,e7 u),(2,e7 v),(3,.pointer<|some ⟨b1,0,none⟩),(7,.slice s.2.1 s.2.2.2.length s.2.2.1),(9,e7<|e_ (nbG nd es u) k),(14,.slice M (nbG nd es u).length aa),(15,e7<|(((nbG nd es u).length:Nat):Int)),(16,e7<|(k:Int)),(25,.slice ab (nbG nd es v).length ad),(26,e7<|(((nbG nd es v).length:Nat):Int)),(27,e7 ((s.1:Nat):Int))]:Env)) (λs=>vc 3 (.slice ab (nbG nd es v).length ad) (nbG nd es v)::vc 200 (.slice s.2.1 s.2.2.2.length s.2.2.1) (s.2.2.2)::vc 3 (.slice M (nbG nd es u).length aa) (nbG nd es u)::e8 b1 [e7 nd,va] 38::I) (λs=>(s.1<=(nbG nd es v).length)/\(s.2.2.2=o++ovrK nd es u v (e_ (nbG nd es u) k) s.1)/\(s.2.2.2.length<=o.length+s.1)) (λs=>(nbG nd es v).length - s.1) (0,oa,oc,o) (show ((0:Nat)<=(nbG nd es v).length)/\((o:List Pt)=o++ovrK nd es u v (e_ (nbG nd es u) k) (0:Nat))/\((o:List Pt).length<=o.length+(0:Nat)) from ⟨om,(by unfold ovrK;simp),om⟩) (Aa C<|Aa C<|Aa C<|Aa (Dd C<|by first|rfl|simp)<|Aa C<|Aa C<|Aa C<|Aa C<|Aa C<|Aa C<|Aa Cd Bl) Bf ?_
  rintro ⟨k2,qa,qc,q⟩ hp
  dsimp only at hp ⊢
  obtain ⟨ax,Z,au⟩:=hp
  refine Af<|Gr (Bb C C)<|Ad<|Ap<|A8 C (λan=>?_)<|λan=>?_
  ·refine Aw (Ah<|Ap<|A0<|Af<|Gr (Az (α:=Int) (xs:=nbG nd es v) Ab ef C C Bh om om)<|Gr (Bw (xs:=nbG nd es v) ef C Bh om om)<|Ga C<|Ad<|Am (S12 11 1 2 3 7 9 14 15 16 25 26 27 C C C C C C C C C C C C)<|Af<|Gm C<|Gm C<|Gr (Bn C C)<|Gm C<|Br (d:=34) C (λae=>?_)<|λae=>?_)
   ·refine e9 (A5 (vs:=[_,_]) ty38) ?_
    refine e9 (Ai C)<|e9 (Ai C)<|Dm (Ch C C C) (Aj c_ C C<|FindG_ok (nd:=nd) (A6 hl) (e_ (nbG nd es u) k) (e_ (nbG nd es v) k2) om) ?_
    rintro _ _ ⟨_,_,⟨y6,rfl,ar,rfl⟩,rfl,rfl⟩
    refine e9 (C3 C C)<|Gr (A3 C C)<|Ad<|Am (S13 40 11 1 2 3 7 9 14 15 16 25 26 27 C C C C C C C C C C C C C)<|A8 C (λah=>?_)<|λah=>?_
    ·refine Au (Gm C<|Gm C<|Gm C<|Gr (Ew (cells:=[_,_]) ty200 B8 ef C C)<|Ge1 (Co (α:=Pt) (cs:=[_,_]) (xs:=[⟨e_ (nbG nd es u) k,e_ (nbG nd es v) k2⟩]) Bz ty200 C C dc dc C C C C) λay=>?_)
     refine Ge2 (Cp (α:=Pt) (e:=200) (xs:=q) (ys:=([⟨e_ (nbG nd es u) k,e_ (nbG nd es v) k2⟩]:List Pt)) Bz ty200 C C C mm Bh lcn dc C<|λ_ _=>am) λao aj=>?_
     exact Ga C<|Bo<|Al<|Ah<|Am (S11 7 1 2 3 9 14 15 16 25 26 27 C C C C C C C C C C C)<|Au<|Gr (Rad C C)<|Gm C<|Bo<|Cf ((k2+1),(ao),(aj),(q++([⟨e_ (nbG nd es u) k,e_ (nbG nd es v) k2⟩]:List Pt)))<|by dsimp only;exact ⟨om,(by first|(rw [ovrK_yes om ⟨by assumption,(find_nb hG asm).1 asm⟩,←List.append_assoc,←Z])|(rw [ovrK_no om (λh=>by first|exact absurd h.1 asm|exact absurd ((find_nb hG asm).2 h.2) asm)];exact Z)|(rw [ovrK_no om (λh=>by omega)];exact Z)),olp⟩
    exact Aw<|Al<|Ah<|Au<|Gr (Rad C C)<|Gm C<|Bo<|Cf ((k2+1),(qa),(qc),(q))<|by dsimp only;exact ⟨om,(by first|(rw [ovrK_yes om ⟨by assumption,(find_nb hG asm).1 asm⟩,←List.append_assoc,←Z])|(rw [ovrK_no om (λh=>by first|exact absurd h.1 asm|exact absurd ((find_nb hG asm).2 h.2) asm)];exact Z)|(rw [ovrK_no om (λh=>by omega)];exact Z)),olp⟩
   exact eb<|eb<|eb<|eb<|eb<|Gr (Bd C C)<|Ad<|Am (S13 40 11 1 2 3 7 9 14 15 16 25 26 27 C C C C C C C C C C C C C)<|Dw C<|Aw<|Al<|Ah<|Au<|Gr (Rad C C)<|Gm C<|Bo<|Cf ((k2+1),(qa),(qc),(q))<|by dsimp only;exact ⟨om,(by first|(rw [ovrK_yes om ⟨by assumption,(find_nb hG asm).1 asm⟩,←List.append_assoc,←Z])|(rw [ovrK_no om (λh=>by first|exact absurd h.1 asm|exact absurd ((find_nb hG asm).2 h.2) asm)];exact Z)|(rw [ovrK_no om (λh=>by omega)];exact Z)),olp⟩
  exact Bx<|Ao<|Ao<|A9<|Al<|Ah<|Au<|Gr (Rad C C)<|Gm C<|Bo<|Cf ((k+1),(qa),(qc),(q))<|by dsimp only;exact ⟨om,(by rw [fm_take _ _ om,←ho];first|(rw [overR_v asm];simp;done)|(rw [Z,show k2=(nbG nd es v).length by omega,ovrK_all asm])),om⟩
 refine Bx<|Ao<|Ao<|A9<|Ah<|Af<|Gm C<|Ga C<|Ad<|Ay ?_
 have hE:(overL nd es u v)=o:=by rw [ho,show k=(nbG nd es u).length by omega,List.take_length];rfl
 exact A1 C C (vc 200 (.slice oa (overL nd es u v).length oc) (overL nd es u v)::I) (by rw [hE];exact Bm) ⟨oa,oc,by rw [hE],rfl⟩
theorem findp_lt{nd u v:Int}{es:List Pt}(h:FindP nd es u v y):y<(es.length:Int):=by
 rcases h with ⟨_,j,rfl,Z,_⟩|⟨rfl,_⟩<;>omega
theorem MChanged_ok{κ:Ctx}{I:List Item}{nd nd':Int}{ma:Option Addr}{mc:Nat}{es es':List Pt}{num num':List Int}(hl:Sl κ I (.slice M es.length ec) es)(hm:Sl κ I (.slice na num.length nc) num)(aa:Sl κ I (.slice ga es'.length gc) es')(Z:Sl κ I (.slice ma num'.length mc) num')(hb:es.length<=1000000)(ap:es'.length<=1000000)(h1:num.length=es.length)(h2:num'.length=es'.length):eu Tryz.prog κ 289 [.agg #[e7 nd,.slice M es.length ec,.slice na num.length nc],.agg #[e7 (nd'),.slice ga es'.length gc,.slice ma num'.length mc]] I (λr J=>∃w:Value,r=w/\J=I):=by
 refine Ce2 Tryz.func289 C C ?_
 refine Af<|Ge1 (Bc (cs:=[_,_,_]) C C C) λb1=>Ge1 (Bc (cs:=[_,_,_]) C C C) λb2=>Ga C<|Ad<|Af<|Ga C<|Ad<|Ap<|Af<|Gf fld41_0 C<|Gf fld38_1 C<|Gl ty36 ?_
 refine Gr (Bj Ax C)<|Gm C<|Ad<|A0<|B1 (σ:=Nat×(Option Addr)×Nat×(List Pt)) (λs=>([(2,.pointer<|some ⟨b1,0,none⟩),(3,.pointer<|some ⟨b2,0,none⟩),(5,.slice s.2.1 s.2.2.2.length s.2.2.1),(11,.slice M es.length ec),(12,e7 ((es.length:Nat):Int)),(13,e7 ((s.1:Nat):Int))]:Env)) (λs=>vc 105 (.slice s.2.1 s.2.2.2.length s.2.2.1) (s.2.2.2)::e8 b2 [e7 (nd'),.slice ga es'.length gc,.slice ma num'.length mc] 41::e8 b1 [e7 nd,.slice M es.length ec,.slice na num.length nc] 41::I) (λs=>(s.1<=es.length)/\(s.2.2.2.length<=s.1)) (λs=>es.length - s.1) (0,none,0,[]) ⟨om,(by simp)⟩ (Aa C<|Aa C<|Aa (Dd C<|by first|rfl|simp)<|Aa C<|Aa C<|Aa Cd Bl) (Cv (show Fit κ _ _ from Bm)<|Cm (α:=Pt) _ _) ?_
 rintro ⟨k,oa,oc,o⟩ hp
 dsimp only at hp ⊢
 obtain ⟨hk,an⟩:=hp
 refine Af<|Gr (Bb C C)<|Ad<|Ap<|A8 C (λai=>?_)<|λai=>?_
 ·refine Aw (Ah<|Ap<|A0<|Af<|Gm C<|Gr (Az (α:=Pt) (xs:=es) Ax ty105 C C (A6 hl) om om)<|Gr (B2 (α:=Pt) (xs:=es) ty105 C (A6 hl) om om)<|Ge1 (A2 ty105 C) λb3=>Ga C<|Ge0 (Da ty105) ?_)
  refine Ad<|Af<|Gf fld41_0 C<|Gl2 ty38 ?_
  refine Gf fld105_0 C<|Gl ef ?_
  refine Gf fld105_1 C<|Gl ef ?_
  refine G.e (Aj c_ C C<|FindG_ok (nd:=nd') (A6 aa) ((e_ es k).u) ((e_ es k).v) om) ?_
  rintro _ _ ⟨_,_,⟨y4,rfl,aj,rfl⟩,rfl,rfl⟩
  refine Ga C ?_
  have ak:=findp_lt aj
  refine Ad<|Am (S9 8 6 7 2 3 5 11 12 13 C C C C C C C C C)<|Ap<|Bq mixed<|Ee 15<|Dr 0 C (Ai C)<|Dr 1 C (C3 C C)<|Dr 2 C (Ai C)<|Ey (d:=27) C (λab=>?_)<|λab=>?_
  ·refine Dro 3 C (Ac fld41_1 C) (Dro 4 C (A7 ty22) ?_)
   refine Dro 5 C (Ai C)<|Dro 6 C (Az (α:=Int) (xs:=num) Ab ef C C (A6 hm) om om)<|Dro 7 C (Bw (xs:=num) ef C (A6 hm) om om)<|Dro 8 C (Ac fld41_1 C)<|Dro 9 C (A7 ty22) ?_
   refine Dro 10 C (Ai C)<|Dro 11 C (Az (α:=Int) (xs:=num') Ab ef C C (A6 Z) om om)<|Dro 12 C (Bw (xs:=num') ef C (A6 Z) om om)<|Dro 13 C (Bn C C)<|Dr 14 C (A3 C C)<|Dz<|Ah<|Am (S8 39 7 2 3 5 11 12 13 C C C C C C C C)<|A8 C (λah=>?_)<|λah=>?_
   ·refine Au (Gm C<|Gl2 ty105 ?_)
    refine Ge1 (Co (α:=Pt) (cs:=[_,_]) (xs:=[⟨(e_ es k).u,(e_ es k).v⟩]) Ax ty105 C C dc dc C C C C) λao=>?_
    refine Ge2 (Cp (α:=Pt) (e:=105) (xs:=o) (ys:=([⟨(e_ es k).u,(e_ es k).v⟩]:List Pt)) Ax ty105 C C C mm Bh lcn dc C<|λ_ _=>am) λad ae=>?_
    exact Ga C<|Bo<|Al<|Ah<|Au<|Gr (Rad C C)<|Gm C<|Bo<|Cf ((k+1),(ad),(ae),(o++([⟨(e_ es k).u,(e_ es k).v⟩]:List Pt)))<|by dsimp only;exact ⟨om,olp⟩
   exact Aw<|Al<|Ah<|Au<|Gr (Rad C C)<|Gm C<|Bo<|Cf ((k+1),(oa),(oc),(o))<|by dsimp only;exact ⟨om,olp⟩
  exact Dpo 3 C<|Dpo 4 C<|Dpo 5 C<|Dpo 6 C<|Dpo 7 C<|Dpo 8 C<|Dpo 9 C<|Dpo 10 C<|Dpo 11 C<|Dpo 12 C<|Dpo 13 C<|Dr 14 C (Bd C C)<|Dz<|Ah<|Am (S8 39 7 2 3 5 11 12 13 C C C C C C C C)<|Dw C<|Aw<|Al<|Ah<|Au<|Gr (Rad C C)<|Gm C<|Bo<|Cf ((k+1),(oa),(oc),(o))<|by dsimp only;exact ⟨om,olp⟩
 exact Bx<|Ao<|Ao<|A9<|Ah<|Af<|Gm C<|Ga C<|Ad<|Ay<|A1 C C I Av ⟨_,rfl,rfl⟩
section
variable {nd:Int}{es:List Pt}{bs ms:List Int}
theorem trisE_len(nd:Int)(es:List Pt):(trisE nd es).length=es.length:=List.length_map ..
theorem TrB.start(hB:TrB nd es bs)(h1:∀i:Int,0<=i->i<es.length->i∈ms)(h2:∀i∈ms,0<=i/\i<es.length):SinkI (trisE nd es) (trussG nd es) bs ms:=by
 have M:=trisE_len nd es
 exact ⟨by rw [M];exact hB.len,λi hi=>by rw [M];exact h2 i hi,λi Z i1=>hB.low i Z om,λi Z i1=> .inl<|h1 i Z om⟩
theorem trussG_is(Z:GrOk nd es):IsTr (λi:Int=>0<=i/\i<(trisE nd es).length) (triI (trisE nd es)) λi=>(e_ (trussG nd es) i).toNat:=by
 have M:=trussE_is (triG Z) (trussE (triG Z)<|tris_ok Z)
 rw [trussG_eq Z];exact M
theorem nn_sum:∀{l:List Int},(∀x∈l,0<=x)->0<=l.sum
 |[],_=>by simp
 |x::l,h=>by
  have h1:=nn_sum (l:=l) λy Z=>h y (List.mem_cons_of_mem _ Z)
  have M:=h x List.mem_cons_self
  rw [List.sum_cons];omega
theorem le_sum{m:Int}:∀{l:List Int},(∀x∈l,x<=m)->l.sum<=m*(l.length:Int)
 |[],_=>by simp
 |x::l,h=>by
  have h1:=le_sum (l:=l) λy Z=>h y (List.mem_cons_of_mem _ Z)
  have M:=h x List.mem_cons_self
  rw [List.sum_cons,List.length_cons]
  have h3:m*((l.length+1:Nat):Int)=m*(l.length:Int)+m:=by rw [Int.natCast_add,Int.mul_add];simp
  omega
theorem sink_nn{tri:List (List Pt)}{t q:List Int}(h:SinkI tri t b q):0<=b.sum:=nn_sum λx Z=>by
 obtain ⟨i,hi,rfl⟩:=mem_atN Z
 have h1:=h.len
 have M:=h.low (i:Int) om om
 omega
theorem bothL_len2(l:List Pt):(bothL l).length=2*l.length:=by
 induction l with
 |nil=>rfl
 |cons p l ih=>unfold bothL at ih ⊢; rw [List.flatMap_cons,List.length_append,ih];simp;omega
theorem bothL_take2(l:List Pt)(h:k<l.length):bothL (l.take (k+1))=bothL (l.take k)++[(e_ l k).u,(e_ l k).v]:=by
 unfold bothL;rw [Cl l k h,List.flatMap_append];simp
theorem cons_at(h:0<ms.length):ms=e_ ms 0::ms.drop 1:=by
 cases ms with
 |nil=>cases h
 |cons a l=>rfl
end
theorem Sink_ok{κ:Ctx}{I:List Item}{nd:Int}{ba:Option Addr}{bc:Nat}{es:List Pt}{bs:List Int}(hl:Sl κ I (.slice ea es.length ec) es)(hG:GrOk nd es)(hB:TrB nd es bs)(a3:∀x∈bs,0<=x/\x<=1000)(hT:TabRd κ I 0 tzCells):eu Tryz.prog κ 288 [.agg #[e7 nd,.slice ea es.length ec],.slice ba bs.length bc] (vc 3 (.slice ba bs.length bc) (bs)::I) (λr J=>r = .slice ba bs.length bc/\J=vc 3 (.slice ba bs.length bc) (trussG nd es)::I):=by
 have bw:=hG.rng
 have b8:=edges_le hG
 have b4:=hB.len
 have bt:=nn_sum (λx hx=>(a3 x hx).1)
 have bp:=le_sum (λx hx=>(a3 x hx).2)
 have b6:=trisE_len nd es
 refine Ce2 Tryz.func288 C C ?_
 refine Af<|Ge1 (Bc (cs:=[_,_]) C C C) λb1=>Ga C<|Ad<|Af<|Gl2 ty38 ?_
 refine G.e (Aj c_ C C<|Triangles_ok (nd:=nd) (A6 hl) hG om<|Bg hT Av) ?_
 rintro _ _ ⟨_,_,⟨ae,ah,Z,rfl,ar,rfl⟩,rfl,rfl⟩
 have b9:Z.length=(trisE nd es).length:=by rw [←ar,List.length_map]
 refine D9 (J:=vc 198 (.slice ae Z.length ah) (Z)::e8 b1 [e7 nd,.slice ea es.length ec] 38::vc 3 (.slice ba bs.length bc) (bs)::(rgI Z++I)) (Cw<|List.Perm.cons _<|C6 (A:=rgI Z) (L:=[e8 b1 [e7 nd,.slice ea es.length ec] 38,vc 3 (.slice ba bs.length bc) bs]) (T:=I)) ?_
 refine Ga C<|Ad<|Af<|G.e (Aj c_ C C Queue_ok) ?_
 rintro _ _ ⟨_,_,⟨ad,rfl,rfl⟩,rfl,rfl⟩
 refine Gm C<|Gr (Ak C C)<|Gr (Ak C C)<|Ga C<|Ga C<|Ad<|Ap<|Af<|Gm C<|Gr (Bj Ab C)<|Gm C<|Ad<|Am (S6 25 24 7 6 5 1 C C C C C C)<|A0<|B1 (σ:=Nat×(Option Addr)×Nat×(List Int)) (λs=>([(1,.slice ba bs.length bc),(5,.slice ae Z.length ah),(6,.func (.func 292) #[] #[.pointer (some ⟨ad,0,none⟩)]),(7,.func (.func 293) #[] #[.pointer (some ⟨ad,0,none⟩)]),(24,e7 ((bs.length:Nat):Int)),(25,e7 ((s.1:Nat):Int))]:Env)) (λs=>vc 3 (.slice s.2.1 s.2.2.2.length s.2.2.1) (s.2.2.2)::e8 ad [.slice s.2.1 s.2.2.2.length s.2.2.1] 22::vc 198 (.slice ae Z.length ah) (Z)::e8 b1 [e7 nd,.slice ea es.length ec] 38::vc 3 (.slice ba bs.length bc) (bs)::(rgI Z++I)) (λs=>(s.1<=bs.length)/\(s.2.2.2.length=s.1)/\(∀i:Int,i∈s.2.2.2↔0<=i/\i<(s.1:Int))) (λs=>bs.length - s.1) (0,none,0,([]:List Int)) ⟨om,rfl,(λi=>⟨(λh=>by cases h),(λh=>by omega)⟩)⟩ (Aa C<|Aa C<|Aa C<|Aa C<|Aa C<|Aa Cd Bl) Bf ?_
 rintro ⟨k,qa,qc,q⟩ hp
 dsimp only at hp ⊢
 obtain ⟨hk,b3,hq⟩:=hp
 refine Af<|Gr (Bb C C)<|Ad<|Ap<|A8 C (λbk=>?_)<|λbk=>?_
 ·refine Aw (Ah<|Ap<|A0<|Af<|Gm C<|Ga C<|Ad<|Au<|Gm C<|Gm C<|Gc2 (Cs c_ C C C<|Cn (J:=vc 3 (.slice qa q.length qc) (q)::e8 ad [.slice qa q.length qc] 22::vc 198 (.slice ae Z.length ah) (Z)::e8 b1 [e7 nd,.slice ea es.length ec] 38::vc 3 (.slice ba bs.length bc) (bs)::(rgI Z++I)) Bm<|QPut_ok (b:=ad) (qs:=q) (i:=(k:Int)) olp) λbo a8=>?_)
  exact Bo<|Al<|Ah<|Au<|Gr (Rad C C)<|Gm C<|Bo<|Cf ((k+1),(bo),(a8),(q++[(k:Int)]))<|by dsimp only;exact ⟨om,lap,(λi=>by rw [List.mem_append,List.mem_singleton,hq];omega)⟩
 refine Bx<|Ao<|Ao<|A9<|Ah<|A0<|B1 (σ:=(List Int)×(Option Addr)×Nat×(List Int)) (λs=>([(1,.slice ba bs.length bc),(5,.slice ae Z.length ah),(6,.func (.func 292) #[] #[.pointer (some ⟨ad,0,none⟩)]),(7,.func (.func 293) #[] #[.pointer (some ⟨ad,0,none⟩)])]:Env)) (λs=>vc 3 (.slice s.2.1 s.2.2.2.length s.2.2.1) (s.2.2.2)::e8 ad [.slice s.2.1 s.2.2.2.length s.2.2.1] 22::vc 198 (.slice ae Z.length ah) (Z)::e8 b1 [e7 nd,.slice ea es.length ec] 38::vc 3 (.slice ba bs.length bc) (s.1)::(rgI Z++I)) (λs=>(SinkI (trisE nd es) (trussG nd es) s.1 s.2.2.2)/\((s.2.2.2.length:Int)+200*s.1.sum<=(bs.length:Int)+200*bs.sum)) (λs=>s.2.2.2.length+200*s.1.sum.toNat) (bs,qa,qc,q) (show (SinkI (trisE nd es) (trussG nd es) (bs:List Int) (q:List Int))/\(((q:List Int).length:Int)+200*(bs:List Int).sum<=(bs.length:Int)+200*bs.sum) from ⟨(hB.start (λi h0 h1=>(hq i).2 ⟨h0,by omega⟩) (λi hi=>by have:=(hq i).1 hi;omega)),om⟩) (Aa C<|Aa C<|Aa C<|Aa C Bl) Bf ?_
 rintro ⟨M,ma,mc,ms⟩ hp
 dsimp only at hp ⊢
 obtain ⟨hS,b5⟩:=hp
 have br:=hS.len
 have bz:=sink_nn hS
 have bq:=hS.low
 refine A0<|Af<|Gm C<|G.e (Cs c_ C C C<|Cn (J:=vc 3 (.slice ma ms.length mc) (ms)::e8 ad [.slice ma ms.length mc] 22::vc 198 (.slice ae Z.length ah) (Z)::e8 b1 [e7 nd,.slice ea es.length ec] 38::vc 3 (.slice ba bs.length bc) (M)::(rgI Z++I)) Bm<|QTake_ok (b:=ad) (qs:=ms) olp) ?_
 rintro _ _ ⟨_,_,(⟨bb,rfl,rfl⟩|⟨bn,aj,ai,rfl,rfl⟩),rfl,rfl⟩
 ·skip
  refine Gm C<|Gr (Ak C C)<|Gr (Ak C C)<|Ga C<|Ga C<|Ad<|Ap<|Af<|Gm C<|Gr (Cr C)<|Ad<|Dp C<|Af<|Gm C<|Ga C<|Ad<|Am (S1 4 C)<|Ay<|Aq<|Be<|Aq<|Be ?_
  have bj:ms=[]:=by assumption
  rw [bj] at hS
  have bg:=hS.done (triG hG) (trussG_is hG) (by rw [trussG_lenE hG];omega)
  exact A1 C C (vc 3 (.slice ba bs.length bc) (trussG nd es)::I) (by rw [←bg];exact Bm) ⟨rfl,rfl⟩
 skip
 refine Gm C<|Gr (Ak C C)<|Gr (Ak C C)<|Ga C<|Ga C<|Ad<|Ap<|Af<|Gm C<|Gr (Cr C)<|Ad<|Dw C<|Aw<|Ah<|Af<|Ga C ?_
 have ap:=hS.rng _ (Ca (xs:=ms) (i:=0) om om)
 have an:(e_ Z<|e_ ms 0).xs=e_ (trisE nd es) (e_ ms 0):=rows_atG ar ap.1 om
 have bh:=(tris_ok hG).len _ (Ca (xs:=(trisE nd es)) ap.1 om)
 rw [←an] at bh
 have ay:SinkI (trisE nd es) (trussG nd es) M ((e_ ms 0)::ms.drop 1):=by rw [←cons_at om];exact hS
 have be:=fun (p:Pt) (hp:p∈(e_ Z<|e_ ms 0).xs)=>((triG hG).rng _ ap.1 ap.2 p (an▸hp)).1
 refine Ad<|Am (S6 11 9 1 5 6 7 C C C C C C)<|Ap<|Af<|Gm C<|Gm C<|Gr (Az (α:=(RowG Pt)) (xs:=Z) Db ty198 C C Bh (by first|omega|(have h8:=aa om;omega))<|by first|omega|(have h8:=aa om;omega))<|Gr (B4 (α:=(RowG Pt)) (xs:=Z) (u:= .slice (e_ Z<|e_ ms 0).a (e_ Z<|e_ ms 0).xs.length (e_ Z<|e_ ms 0).c) ty198 C Bh (by first|omega|(have h8:=aa om;omega)) (by first|omega|(have h8:=aa om;omega)) C)<|Gr (Bj Bz C)<|Gm C<|Ad<|A0<|B1 (σ:=Nat×(Option Addr)×Nat×(List Int)) (λs=>([(1,.slice ba bs.length bc),(5,.slice ae Z.length ah),(6,.func (.func 292) #[] #[.pointer (some ⟨ad,0,none⟩)]),(7,.func (.func 293) #[] #[.pointer (some ⟨ad,0,none⟩)]),(9,e7<|e_ ms 0),(11,.slice s.2.1 s.2.2.2.length s.2.2.1),(43,.slice (e_ Z<|e_ ms 0).a (e_ Z<|e_ ms 0).xs.length (e_ Z<|e_ ms 0).c),(44,e7<|(((e_ Z<|e_ ms 0).xs.length:Nat):Int)),(45,e7 ((s.1:Nat):Int))]:Env)) (λs=>vc 3 (.slice s.2.1 s.2.2.2.length s.2.2.1) (s.2.2.2)::vc 3 (.slice aj (List.drop 1 ms).length ai) (List.drop 1 ms)::e8 ad [.slice aj (List.drop 1 ms).length ai] 22::vc 198 (.slice ae Z.length ah) (Z)::e8 b1 [e7 nd,.slice ea es.length ec] 38::vc 3 (.slice ba bs.length bc) (M)::(rgI Z++I)) (λs=>(s.1<=(e_ Z<|e_ ms 0).xs.length)/\(s.2.2.2=((e_ Z<|e_ ms 0).xs.take s.1).map λp=>min (e_ M p.u)<|e_ M p.v)) (λs=>(e_ Z<|e_ ms 0).xs.length - s.1) (0,none,0,([]:List Int)) ⟨om,rfl⟩ (Aa C<|Aa C<|Aa C<|Aa C<|Aa C<|Aa (Dd C<|by first|rfl|simp)<|Aa C<|Aa C<|Aa Cd Bl) (Cv (show Fit κ _ _ from Bm)<|Cm (α:=Int) _ _) ?_
 rintro ⟨j,oa,oc,o⟩ hp
 dsimp only at hp ⊢
 obtain ⟨hj,ho⟩:=hp
 have b7:o.length=j:=by rw [ho,List.length_map,List.length_take];omega
 have aa:=λh:j<(e_ Z<|e_ ms 0).xs.length=>be _ (Ca (xs:=(e_ Z<|e_ ms 0).xs) (i:=(j:Int)) om om)
 refine Af<|Gr (Bb C C)<|Ad<|Ap<|A8 C (λbm=>?_)<|λbm=>?_
 ·refine Aw (Ah<|Ap<|A0<|Af<|Gr (Az (α:=Pt) (xs:=(e_ Z<|e_ ms 0).xs) Bz ty200 C C (C8<|by repeat (first|exact rgI_mem (rs:=Z) (i:=(e_ ms 0)) om om|apply List.mem_cons_of_mem)) (by first|omega|(have h8:=aa om;omega))<|by first|omega|(have h8:=aa om;omega))<|Gr (B2 (α:=Pt) (xs:=(e_ Z<|e_ ms 0).xs) ty200 C (C8<|by repeat (first|exact rgI_mem (rs:=Z) (i:=(e_ ms 0)) om om|apply List.mem_cons_of_mem)) (by first|omega|(have h8:=aa om;omega))<|by first|omega|(have h8:=aa om;omega))<|Ge1 (A2 ty200 C) λa6=>Ge0 (Da ty200) ?_)
  refine Ad<|Bq mixed<|Cc (e8 a6 [e7 ((e_ ((e_ Z<|e_ ms 0).xs) (j:Int)).u),e7<|(e_ ((e_ Z<|e_ ms 0).xs) (j:Int)).v] 200::vc 3 (.slice aj (List.drop 1 ms).length ai) (List.drop 1 ms)::e8 ad [.slice aj (List.drop 1 ms).length ai] 22::vc 198 (.slice ae Z.length ah) (Z)::e8 b1 [e7 nd,.slice ea es.length ec] 38::vc 3 (.slice ba bs.length bc) (M)::(rgI Z++I)) 15<|Dr 0 C (Ai C)<|Dr 1 C (Ai C)<|Dr 2 C (B7 B8 ty2 C C om om)<|Dr 3 C (A7 ef) ?_
  refine Dr 4 C (Az (α:=Int) (xs:=M) Ab ef C C Bh (by first|omega|(have h8:=aa om;omega))<|by first|omega|(have h8:=aa om;omega))<|Dr 5 C (Bw (xs:=M) ef C Bh (by first|omega|(have h8:=aa om;omega))<|by first|omega|(have h8:=aa om;omega))<|Dr 6 C (Ai C)<|Dr 7 C (B7 B8 ty2 C C om om)<|Dr 8 C (A7 ef) ?_
  refine Dr 9 C (Az (α:=Int) (xs:=M) Ab ef C C Bh (by first|omega|(have h8:=aa om;omega))<|by first|omega|(have h8:=aa om;omega))<|Dr 10 C (Bw (xs:=M) ef C Bh (by first|omega|(have h8:=aa om;omega))<|by first|omega|(have h8:=aa om;omega))<|Dr 11 C (Er C C)<|Ds1 12<|Se1 C (Co (α:=Int) (cs:=[_]) (xs:=[if (e_ M<|(e_ ((e_ Z<|e_ ms 0).xs) (j:Int)).v)<(e_ M<|(e_ ((e_ Z<|e_ ms 0).xs) (j:Int)).u) then (e_ M<|(e_ ((e_ Z<|e_ ms 0).xs) (j:Int)).v) else (e_ M<|(e_ ((e_ Z<|e_ ms 0).xs) (j:Int)).u)]) Ab ef C C dc dc C C C C) λbu=>?_
  refine Ds1 13<|Se2 C (Cp (α:=Int) (e:=3) (xs:=o) (ys:=([if (e_ M<|(e_ ((e_ Z<|e_ ms 0).xs) (j:Int)).v)<(e_ M<|(e_ ((e_ Z<|e_ ms 0).xs) (j:Int)).u) then (e_ M<|(e_ ((e_ Z<|e_ ms 0).xs) (j:Int)).v) else (e_ M<|(e_ ((e_ Z<|e_ ms 0).xs) (j:Int)).u)]:List Int)) Ab ef C C C mm Bh lcn dc C<|λ_ _=>am) λa1 az=>?_
  exact Dr 14 C (Ba C)<|Dz<|Al<|Ah<|Am (S9 11 1 5 6 7 9 43 44 45 C C C C C C C C C)<|Au<|Gr (Rad C C)<|Gm C<|Bo<|Cf ((j+1),(a1),(az),(o++([if (e_ M<|(e_ ((e_ Z<|e_ ms 0).xs) (j:Int)).v)<(e_ M<|(e_ ((e_ Z<|e_ ms 0).xs) (j:Int)).u) then (e_ M<|(e_ ((e_ Z<|e_ ms 0).xs) (j:Int)).v) else (e_ M<|(e_ ((e_ Z<|e_ ms 0).xs) (j:Int)).u)]:List Int)))<|by dsimp only;exact ⟨om,(by rw [Cl _ j om,List.map_append,←ho];simp only [List.map_cons,List.map_nil];first|rfl|(rw [ifmin]))⟩
 refine Bx<|Ao<|Ao<|A9<|Ah<|Ap<|Bq mixed<|Ee 8<|Dr 0 C (Ai C)<|Dr 2 C (Ai C)<|Dr 3 C (Ai C)<|Dr 4 C (Az (α:=Int) (xs:=M) Ab ef C C Bh (by first|omega|(have h8:=aa om;omega))<|by first|omega|(have h8:=aa om;omega))<|Dr 5 C (Bw (xs:=M) ef C Bh (by first|omega|(have h8:=aa om;omega))<|by first|omega|(have h8:=aa om;omega))<|Ds1 1<|Se C (Aj c_ C C<|H_ok (xs:=o) Bh om) ?_
 rintro _ _ ⟨_,_,⟨ab,rfl,ak,rfl⟩,rfl,rfl⟩
 refine ⟨Av,?_⟩
 refine Dr 6 C (Er C C) ?_
 have bf:(if (e_ M<|e_ ms 0)<(ab:Int) then (e_ M<|e_ ms 0) else (ab:Int))=(min (ab:Int)<|e_ M<|e_ ms 0):=by split<;>omega
 rw [bf]
 have a4:HI (minsT (trisE nd es) M<|e_ ms 0) (ab:Int):=by rw [ho,show j=(e_ Z<|e_ ms 0).xs.length by omega,List.take_length,an] at ak;exact ak
 refine Dr 7 C (Ba C)<|Dz<|Ah<|Am (S6 14 1 5 6 7 9 C C C C C C)<|Af<|Gm C<|Gm C<|Gm C<|Gr (Az (α:=Int) (xs:=M) Ab ef C C Bh (by first|omega|(have h8:=aa om;omega))<|by first|omega|(have h8:=aa om;omega))<|Gr (Bw (xs:=M) ef C Bh (by first|omega|(have h8:=aa om;omega))<|by first|omega|(have h8:=aa om;omega))<|Gr (Bb C C)<|Ad<|A8 C (λbi=>?_)<|λbi=>?_
 ·refine Af (Gm C<|Gm C<|Gm C<|Gr (Az (α:=Int) (xs:=M) Ab ef C C Bh (by first|omega|(have h8:=aa om;omega))<|by first|omega|(have h8:=aa om;omega))<|Ge0 (Cx (α:=Int) (xs:=M) (e:=3) (new:=(min (ab:Int)<|e_ M<|e_ ms 0)) ef C C C (by first|omega|(have h8:=aa om;omega)) (by first|omega|(have h8:=aa om;omega)) am) ?_)
  refine Ad<|Am (S5 1 5 6 7 9 C C C C C)<|Af<|Gm C<|Gm C<|Gr (Az (α:=(RowG Pt)) (xs:=Z) Db ty198 C C Bh (by first|omega|(have h8:=aa om;omega))<|by first|omega|(have h8:=aa om;omega))<|Gr (B4 (α:=(RowG Pt)) (xs:=Z) (u:= .slice (e_ Z<|e_ ms 0).a (e_ Z<|e_ ms 0).xs.length (e_ Z<|e_ ms 0).c) ty198 C Bh (by first|omega|(have h8:=aa om;omega)) (by first|omega|(have h8:=aa om;omega)) C)<|Gr (Bj Bz C)<|Gm C<|Ad<|A0<|B1 (σ:=Nat×(Option Addr)×Nat×(List Int)) (λs=>([(1,.slice ba bs.length bc),(5,.slice ae Z.length ah),(6,.func (.func 292) #[] #[.pointer (some ⟨ad,0,none⟩)]),(7,.func (.func 293) #[] #[.pointer (some ⟨ad,0,none⟩)]),(84,.slice (e_ Z<|e_ ms 0).a (e_ Z<|e_ ms 0).xs.length (e_ Z<|e_ ms 0).c),(85,e7<|(((e_ Z<|e_ ms 0).xs.length:Nat):Int)),(86,e7 ((s.1:Nat):Int))]:Env)) (λs=>vc 3 (.slice s.2.1 s.2.2.2.length s.2.2.1) (s.2.2.2)::e8 ad [.slice s.2.1 s.2.2.2.length s.2.2.1] 22::vc 3 (.slice oa o.length oc) (o)::vc 198 (.slice ae Z.length ah) (Z)::e8 b1 [e7 nd,.slice ea es.length ec] 38::vc 3 (.slice ba bs.length bc) (List.set M (e_ ms 0).toNat ((min (ab:Int)<|e_ M<|e_ ms 0)))::(rgI Z++I)) (λs=>(s.1<=(e_ Z<|e_ ms 0).xs.length)/\(s.2.2.2=ms.drop 1++bothL ((e_ Z<|e_ ms 0).xs.take s.1))) (λs=>(e_ Z<|e_ ms 0).xs.length - s.1) (0,aj,ai,List.drop 1 ms) ⟨om,(by unfold bothL;simp)⟩ (Aa C<|Aa C<|Aa C<|Aa C<|Aa C<|Aa C<|Aa Cd Bl) Bm ?_
  rintro ⟨j2,pa,pc,ps⟩ hp
  dsimp only at hp ⊢
  obtain ⟨bx,av⟩:=hp
  have b2:ps.length=(ms.length - 1)+2*j2:=by rw [av,List.length_append,List.length_drop,bothL_len2,List.length_take];omega
  refine Af<|Gr (Bb C C)<|Ad<|Ap<|A8 C (λa7=>?_)<|λa7=>?_
  ·refine Aw (Ah<|Ap<|A0<|Af<|Gr (Az (α:=Pt) (xs:=(e_ Z<|e_ ms 0).xs) Bz ty200 C C (C8<|by repeat (first|exact rgI_mem (rs:=Z) (i:=(e_ ms 0)) om om|apply List.mem_cons_of_mem)) (by first|omega|(have h8:=aa om;omega))<|by first|omega|(have h8:=aa om;omega))<|Gr (B2 (α:=Pt) (xs:=(e_ Z<|e_ ms 0).xs) ty200 C (C8<|by repeat (first|exact rgI_mem (rs:=Z) (i:=(e_ ms 0)) om om|apply List.mem_cons_of_mem)) (by first|omega|(have h8:=aa om;omega))<|by first|omega|(have h8:=aa om;omega))<|Ge1 (A2 ty200 C) λax=>Ge0 (Da ty200) ?_)
   refine Ad<|Af<|Gm C<|Gr (B7 B8 ty2 C C om om)<|Gl ef ?_
   refine Gc2 (Cs c_ C C C<|Cn (J:=vc 3 (.slice pa ps.length pc) (ps)::e8 ad [.slice pa ps.length pc] 22::e8 ax [e7 ((e_ ((e_ Z<|e_ ms 0).xs) (j2:Int)).u),e7<|(e_ ((e_ Z<|e_ ms 0).xs) (j2:Int)).v] 200::vc 3 (.slice oa o.length oc) (o)::vc 198 (.slice ae Z.length ah) (Z)::e8 b1 [e7 nd,.slice ea es.length ec] 38::vc 3 (.slice ba bs.length bc) (List.set M (e_ ms 0).toNat ((min (ab:Int)<|e_ M<|e_ ms 0)))::(rgI Z++I)) Bm<|QPut_ok (b:=ad) (qs:=ps) (i:=(e_ ((e_ Z<|e_ ms 0).xs) (j2:Int)).u) olp) λaq au=>?_
   refine Ad<|Am (S8 16 1 5 6 7 84 85 86 C C C C C C C C)<|Au<|Gm C<|Gr (B7 B8 ty2 C C om om)<|Gl ef ?_
   refine Gc2 (Cs c_ C C C<|Cn (J:=vc 3 (.slice aq (ps++[(e_ ((e_ Z<|e_ ms 0).xs) (j2:Int)).u]).length au) (ps++[(e_ ((e_ Z<|e_ ms 0).xs) (j2:Int)).u])::e8 ad [.slice aq (ps++[(e_ ((e_ Z<|e_ ms 0).xs) (j2:Int)).u]).length au] 22::e8 ax [e7 ((e_ ((e_ Z<|e_ ms 0).xs) (j2:Int)).u),e7<|(e_ ((e_ Z<|e_ ms 0).xs) (j2:Int)).v] 200::vc 3 (.slice oa o.length oc) (o)::vc 198 (.slice ae Z.length ah) (Z)::e8 b1 [e7 nd,.slice ea es.length ec] 38::vc 3 (.slice ba bs.length bc) (List.set M (e_ ms 0).toNat ((min (ab:Int)<|e_ M<|e_ ms 0)))::(rgI Z++I)) Bm<|QPut_ok (b:=ad) (qs:=ps++[(e_ ((e_ Z<|e_ ms 0).xs) (j2:Int)).u]) (i:=(e_ ((e_ Z<|e_ ms 0).xs) (j2:Int)).v) olp) λa0 aw=>?_
   exact Bo<|Al<|Ah<|Au<|Gr (Rad C C)<|Gm C<|Bo<|Cf ((j2+1),(a0),(aw),((ps++[(e_ ((e_ Z<|e_ ms 0).xs) (j2:Int)).u])++[(e_ ((e_ Z<|e_ ms 0).xs) (j2:Int)).v]))<|by dsimp only;exact ⟨om,(by rw [bothL_take2 _ om,←List.append_assoc,←av];simp)⟩
  refine Bx<|Ao<|Ao<|A9<|Al ?_
  have a5:min (ab:Int) (e_ M<|e_ ms 0)=(ab:Int):=by omega
  have ao:SinkI (trisE nd es) (trussG nd es) (List.set M (e_ ms 0).toNat ((min (ab:Int)<|e_ M<|e_ ms 0))) (ps):=by rw [a5,av,show j2=(e_ Z<|e_ ms 0).xs.length by omega,List.take_length,an];exact ay.sink (triG hG) (trussG_is hG) a4 om
  have bv:=sink_nn ao
  have a9:(List.set M (e_ ms 0).toNat ((min (ab:Int)<|e_ M<|e_ ms 0))).sum=M.sum - e_ M (e_ ms 0)+min (ab:Int) (e_ M<|e_ ms 0):=by rw [sumL_set om om]
  exact Cf ((List.set M (e_ ms 0).toNat ((min (ab:Int)<|e_ M<|e_ ms 0))),(pa),(pc),(ps))<|by dsimp only;exact ⟨ao,om⟩
 refine Aw<|Al ?_
 have ao:SinkI (trisE nd es) (trussG nd es) M (List.drop 1 ms):=ay.pass a4 om
 have a9:(List.drop 1 ms).length=ms.length - 1:=by rw [List.length_drop]
 exact Cf ((M),(aj),(ai),(List.drop 1 ms))<|by dsimp only;exact ⟨ao,om⟩
section
variable {nd:Int}{es es':List Pt}{u v:Int}
theorem trusT_at(Z:GrOk nd es)(M:j<es.length):((trusT nd es (e_ es j):Nat):Int)=e_ (trussG nd es) j:=by
 unfold trusT
 rw [idx_eq Z M]
 have:=truss_pos Z (i:=(j:Int)) om om
 omega
structure NxE (nd:Int) (es':List Pt) (k:Nat) (x:Int):Prop where
 low:0<=e_ (trussG nd es') k/\e_ (trussG nd es') k<=x
 up:x<=100
theorem truss_bd64(Z:GrOk nd es)(M:j<es.length):0<=e_ (trussG nd es) j/\e_ (trussG nd es) j<=64:=by
 have h1:=trussG_pos Z (u:=(j:Int)) om (by rw [trussG_lenE Z];omega)
 have:=Z.rng
 omega
theorem find_old(hG:GrOk nd es)(Z:GrOk nd es')(hk:k<es'.length)(h:FindP nd es (e_ es' k).u (e_ es' k).v y):(0<=y/\y<es.length/\e_ es y=e_ es' k)\/(y = -1/\e_ es' k∉es):=by
 have M:=Ca (xs:=es') (i:=(k:Int)) om om
 have hs:=edgeP_self (e:=e_ es' k) (by have:=Z.edge _ M;omega)
 unfold FindP at h
 rw [hs] at h
 rcases h with ⟨_,j,rfl,hj,e⟩|⟨rfl,h1|h1⟩
 ·exact .inl ⟨by omega,by omega,e⟩
 ·exact absurd (checkG_ok.2 hG) h1
 exact .inr ⟨rfl,h1⟩
theorem nx_new(h:OneE nd es es' u v)(Z:k<es'.length)(hf:FindP nd es (e_ es' k).u (e_ es' k).v y)(hy:y<0):NxE nd es' k ((commonG nd es' u v).length:Int):=by
 have hm:=Ca (xs:=es') (i:=(k:Int)) om om
 rcases find_old h.ok h.ok' Z hf with M|⟨_,M⟩
 ·omega
 have e:=((h.mem _).1 hm).resolve_left M
 have h2:=h.truss_new
 have h3:=trusT_at h.ok' Z
 rw [e] at h3
 have h4:=truss_pos h.ok' (i:=(k:Int)) om om
 have h5:=commonG_len nd es' u v
 exact ⟨by omega,by omega⟩
theorem nx_ins(h:OneE nd es es' u v)(Z:k<es'.length)(hf:FindP nd es (e_ es' k).u (e_ es' k).v y)(hy:¬y<0):NxE nd es' k (e_ (trussG nd es) y+1):=by
 rcases find_old h.ok h.ok' Z hf with ⟨h0,h1,e⟩|h1
 ·obtain ⟨j,rfl⟩:=Int.eq_ofNat_of_zero_le h0
  have M:j<es.length:=by omega
  have h2:=(h.truss (e:=e_ es j)<|Ca om om).2
  have h3:=trusT_at h.ok' Z
  rw [←e] at h3
  have h4:=trusT_at h.ok M
  have h5:=truss_pos h.ok' (i:=(k:Int)) om om
  have h6:=truss_bd64 h.ok M
  exact ⟨by omega,by omega⟩
 omega
theorem nx_del(h:OneE nd es es' u v)(M:k<es.length)(hf:FindP nd es' (e_ es k).u (e_ es k).v y):0<=y/\NxE nd es k (e_ (trussG nd es') y):=by
 have Z:=Ca (xs:=es) (i:=(k:Int)) om om
 rcases find_old h.ok' h.ok M hf with ⟨h0,h1,e⟩|⟨_,h1⟩
 ·obtain ⟨j,rfl⟩:=Int.eq_ofNat_of_zero_le h0
  have hj:j<es'.length:=by omega
  have h2:=(h.truss Z).1
  have h3:=trusT_at h.ok M
  have h4:=trusT_at h.ok' hj
  rw [e] at h4
  have h5:=truss_pos h.ok (i:=(k:Int)) om om
  have h6:=truss_bd64 h.ok' hj
  exact ⟨h0,⟨by omega,by omega⟩⟩
 exact absurd ((h.mem _).2 (.inl Z)) h1
structure NxI (nd:Int) (es':List Pt) (k:Nat) (b:List Int):Prop where
 len:b.length=k
 val:∀i:Nat,i<k->NxE nd es' i (e_ b i)
theorem NxI.zero:NxI nd es' 0 []:=⟨rfl,λi h=>absurd h (Nat.not_lt_zero _)⟩
theorem NxI.next(h:NxI nd es' k b)(Z:NxE nd es' k x):NxI nd es' (k+1) (b++[x]):=⟨by rw [List.length_append,h.len];rfl,λi hi=>by
 by_cases e:i<k
 ·have e1:e_ (b++[x]) i=e_ b i:=by rw [Cy _ i (by rw [List.length_append,h.len];omega),Cy _ i<|by rw [h.len];exact e,List.getElem_append_left]
  rw [e1];exact h.val i e
 have e2:i=b.length:=by rw [h.len];omega
 have e1:e_ (b++[x]) i=x:=by subst e2;rw [Cy _ _ (by simp)];simp
 rw [e1,show i=k by omega];exact Z⟩
theorem NxI.all(h:NxI nd es' es'.length b):TrB nd es' b/\∀x∈b,0<=x/\x<=1000:=by
 refine ⟨⟨h.len,λi h0 Z=>?_⟩,λx hx=>?_⟩
 ·obtain ⟨j,rfl⟩:=Int.eq_ofNat_of_zero_le h0
  exact (h.val j om).low
 obtain ⟨j,M,rfl⟩:=mem_atN hx
 rw [h.len] at M
 have Z:=h.val j M
 have h2:=Z.low
 have h3:=Z.up
 omega
theorem one_len(h:OneE nd es es' u v):es'.length=es.length+1:=by
 have Z:es'.Perm (edgeP u v::es):=(List.perm_ext_iff_of_nodup (E7 h.ok'.asc)<|List.nodup_cons.2 ⟨h.no,E7 h.ok.asc⟩).2 λp=>by rw [h.mem,List.mem_cons];exact Or.comm
 rw [Z.length_eq];rfl
end
theorem SinkT_ok{κ:Ctx}{I:List Item}{nd:Int}{Z:Nat}{es:List Pt}{bs:List Int}(hl:Sl κ I (.slice ea es.length ec) es)(hG:GrOk nd es)(hB:TrB nd es bs)(aa:∀x∈bs,0<=x/\x<=1000)(hT:TabRd κ I 0 tzCells):eu Tryz.prog κ 288 [.agg #[e7 nd,.slice ea es.length ec],.slice M bs.length Z] (vc 3 (.slice M bs.length Z) bs::I) λr J=>r = .slice M (trussG nd es).length Z/\J=vc 3 (.slice M (trussG nd es).length Z) (trussG nd es)::I:=by
 have e:bs.length=(trussG nd es).length:=by rw [trussG_lenE hG];exact hB.len
 exact (Sink_ok hl hG hB aa hT).mono λr J h=>⟨h.1.trans<|by rw [e],h.2.trans<|by rw [e]⟩
theorem NextI_ok{κ:Ctx}{I:List Item}{nd u v:Int}{es es':List Pt}(hl:Sl κ I (.slice ea es.length ec) es)(hm:Sl κ I (.slice na (trussG nd es).length nc) (trussG nd es))(Z:Sl κ I (.slice ga es'.length gc) es')(h:OneE nd es es' u v)(hT:TabRd κ I 0 tzCells):eu Tryz.prog κ 287 [.agg #[e7 nd,.slice ea es.length ec,.slice na (trussG nd es).length nc],.agg #[e7 nd,.slice ga es'.length gc],e7 u,e7 v] I (λr J=>∃(a:Option Addr) (c:Nat) (w:Value),r = .tuple #[.agg #[e7 nd,.slice ga es'.length gc,.slice a (trussG nd es').length c],w]/\J=vc 3 (.slice a (trussG nd es').length c) (trussG nd es')::I):=by
 have a6:=edges_le h.ok
 have ay:=edges_le h.ok'
 have a4:=one_len h
 have ad:=trussG_lenE h.ok
 have aa:=trussG_lenE h.ok'
 refine Ce4 Tryz.func287 C C ?_
 refine Af<|Ge1 (Bc (cs:=[_,_,_]) C C C) λb1=>Ge1 (Bc (cs:=[_,_]) C C C) λb2=>Ge1 (A2 ty41 C) λb3=>Ga C<|Ad<|Af<|Gf fld38_1 C<|Gl ty36 ?_
 refine Gr (Bj Ax C)<|Gf fld41_0 C<|Gf fld38_1 C<|Gl ty36 ?_
 refine Gr (Bj Ax C)<|Gr (Ck C C)<|Ga C<|Ad<|Am (S6 10 8 5 4 2 3 C C C C C C)<|Af<|Ga C<|Ad<|Ap<|Af<|Gf fld38_1 C<|Gl ty36 ?_
 refine Gr (Bj Ax C)<|Gm C<|Ad<|A0<|B1 (σ:=Nat×(Option Addr)×Nat×(List Int)) (λs=>([(2,e7 u),(3,e7 v),(4,.pointer<|some ⟨b1,0,none⟩),(5,.pointer<|some ⟨b2,0,none⟩),(8,.pointer<|some ⟨b3,0,none⟩),(10,.bool<|decide<|((es.length:Nat):Int)<((es'.length:Nat):Int)),(11,.slice s.2.1 s.2.2.2.length s.2.2.1),(25,.slice ga es'.length gc),(26,e7<|((es'.length:Nat):Int)),(27,e7 ((s.1:Nat):Int))]:Env)) (λs=>vc 3 (.slice s.2.1 s.2.2.2.length s.2.2.1) (s.2.2.2)::e8 b3 [e7 0,.slice none 0 0,.slice none 0 0] 41::e8 b2 [e7 nd,.slice ga es'.length gc] 38::e8 b1 [e7 nd,.slice ea es.length ec,.slice na (trussG nd es).length nc] 41::I) (λs=>(s.1<=es'.length)/\(NxI nd es' s.1 s.2.2.2)) (λs=>es'.length - s.1) (0,none,0,([]:List Int)) ⟨om,NxI.zero⟩ (Aa C<|Aa C<|Aa C<|Aa C<|Aa C<|Aa C<|Aa (Dd C<|by first|rfl|simp)<|Aa C<|Aa C<|Aa Cd Bl) (Cv (show Fit κ _ _ from Bm)<|Cm (α:=Int) _ _) ?_
 rintro ⟨k,ba,bc,bd⟩ hp
 dsimp only at hp ⊢
 obtain ⟨hk,hb⟩:=hp
 have a0:=hb.len
 refine Af<|Gr (Bb C C)<|Ad<|Ap<|A8 C (λax=>?_)<|λax=>?_
 ·refine Aw (Ah<|Ap<|A0<|Af<|Gr (Az (α:=Pt) (xs:=es') Ax ty105 C C (A6 Z) om<|by first|omega|(rcases M with ⟨q1,q2,q3⟩|q1<;>omega))<|Gr (B2 (α:=Pt) (xs:=es') ty105 C (A6 Z) om<|by first|omega|(rcases M with ⟨q1,q2,q3⟩|q1<;>omega))<|Ge1 (A2 ty105 C) λb4=>Ge0 (Da ty105) ?_)
  refine Ad<|Am (S11 13 2 3 4 5 8 10 11 25 26 27 C C C C C C C C C C C)<|Af<|Gf fld41_0 C<|Gl2 ty38 ?_
  refine Gf fld105_0 C<|Gl ef ?_
  refine Gf fld105_1 C<|Gl ef ?_
  refine G.e (Aj c_ C C<|FindG_ok (nd:=nd) (A6 hl) ((e_ es' k).u) ((e_ es' k).v) om) ?_
  rintro _ _ ⟨_,_,⟨y5,rfl,ai,rfl⟩,rfl,rfl⟩
  refine Ga C ?_
  have M:=find_old h.ok h.ok' om ai
  have ak:=λq:0<=y5/\y5<es.length=>truss_bd64 h.ok (j:=(y5).toNat) om
  have ah:=λq:0<=y5=>show (((y5).toNat:Nat):Int)=y5 from Int.toNat_of_nonneg q
  refine Ad<|Am (S11 14 2 3 4 5 8 10 11 25 26 27 C C C C C C C C C C C)<|A0<|Af<|Gm C<|Gr (Bb C C)<|Ga C<|Ad<|Am (S12 46 14 2 3 4 5 8 10 11 25 26 27 C C C C C C C C C C C C)<|A8 C (λae=>?_)<|λae=>?_
  ·refine Au (Gm C<|Gl2 ty38 ?_)
   refine Gm C<|Gm C<|Gc2 (Aj c_ C C<|CommonG_ok (nd:=nd) (A6 Z) u v<|Bg hT Av) λa3 a5=>?_
   have aj:=nx_new h om ai ae
   refine Gr (Bj Ab C)<|Ge1 (Co (α:=Int) (cs:=[_]) (xs:=[(((commonG nd es' u v).length:Nat):Int)]) Ab ef C C dc dc C C C C) λbb=>?_
   refine Ge2 (Cp (α:=Int) (e:=3) (xs:=bd) (ys:=([(((commonG nd es' u v).length:Nat):Int)]:List Int)) Ab ef C C C mm Bh lcn dc C<|λ_ _=>am) λaw ap=>?_
   exact Ga C<|Bo<|Al<|Al<|Ah<|Am (S10 11 2 3 4 5 8 10 25 26 27 C C C C C C C C C C)<|Au<|Gr (Cq C C<|by first|(unfold InR;omega)|rcases M with ⟨q1,q2,q3⟩|q1;(· have q4:=ak ⟨q1,q2⟩;rw [ah q1] at q4;unfold InR;omega);(· omega))<|Gm C<|Bo<|Cf ((k+1),(aw),(ap),(bd++([(((commonG nd es' u v).length:Nat):Int)]:List Int)))<|by dsimp only;exact ⟨om,(hb.next aj)⟩
  refine Af<|Gm C<|Ga C<|Ad<|Am (S12 57 14 2 3 4 5 8 10 11 25 26 27 C C C C C C C C C C C C)<|A8 C (λaq=>?_)<|λaq=>?_
  ·refine Au (Gm C<|Gf fld41_1 C<|Gl ty22 ?_)
   refine Gm C<|Gr (Az (α:=Int) (xs:=trussG nd es) Ab ef C C (A6 hm) om<|by first|omega|(rcases M with ⟨q1,q2,q3⟩|q1<;>omega))<|Gr (Bw (xs:=trussG nd es) ef C (A6 hm) om<|by first|omega|(rcases M with ⟨q1,q2,q3⟩|q1<;>omega)) ?_
   have aj:=nx_ins h om ai ae
   refine Gr (Cq C C<|by first|(unfold InR;omega)|rcases M with ⟨q1,q2,q3⟩|q1;(· have q4:=ak ⟨q1,q2⟩;rw [ah q1] at q4;unfold InR;omega);(· omega))<|Ge1 (Co (α:=Int) (cs:=[_]) (xs:=[(e_ (trussG nd es) y5)+1]) Ab ef C C dc dc C C C C) λaz=>?_
   refine Ge2 (Cp (α:=Int) (e:=3) (xs:=bd) (ys:=([(e_ (trussG nd es) y5)+1]:List Int)) Ab ef C C C mm Bh lcn dc C<|λ_ _=>am) λan ao=>?_
   exact Ga C<|Bo<|Al<|Al<|Ah<|Am (S10 11 2 3 4 5 8 10 25 26 27 C C C C C C C C C C)<|Au<|Gr (Cq C C<|by first|(unfold InR;omega)|rcases M with ⟨q1,q2,q3⟩|q1;(· have q4:=ak ⟨q1,q2⟩;rw [ah q1] at q4;unfold InR;omega);(· omega))<|Gm C<|Bo<|Cf ((k+1),(an),(ao),(bd++([(e_ (trussG nd es) y5)+1]:List Int)))<|by dsimp only;exact ⟨om,(hb.next aj)⟩
  omega
 refine Bx<|Ao<|Ao<|A9<|Ah<|Ap<|Bq mixed<|Cc (e8 b3 [e7 0,.slice none 0 0,.slice none 0 0] 41::e8 b2 [e7 nd,.slice ga es'.length gc] 38::e8 b1 [e7 nd,.slice ea es.length ec,.slice na (trussG nd es).length nc] 41::I) 6<|Dr 0 C (A5 (vs:=[_,_]) ty38) ?_
 have ar:k=es'.length:=by omega
 rw [ar] at hb
 have ab:=hb.all
 refine Dr 1 C (A5 (vs:=[_,_]) ty38) ?_
 refine Dr 2 C (Ai C)<|Dl (rs:=[3,5]) kr C C<|Ez ?_<|Ed ?_
 ·refine Se C (Aj c_ C C<|Cn (J:=vc 3 (.slice ba bd.length bc) (bd)::e8 b3 [e7 0,.slice none 0 0,.slice none 0 0] 41::e8 b2 [e7 nd,.slice ga es'.length gc] 38::e8 b1 [e7 nd,.slice ea es.length ec,.slice na (trussG nd es).length nc] 41::I) Bm<|SinkT_ok (nd:=nd) (es:=es') (bs:=bd) (A6 Z) h.ok' ab.1 ab.2<|Bg hT Av) ?_
  rintro _ _ ⟨_,_,⟨rfl,rfl⟩,rfl,rfl⟩
  refine ⟨Bm,?_⟩
  refine Dr 4 C (Bp (cells:=[_,_,_]) ty41 C7 pl41 C C)<|Ds1 5<|Se1 C (A2 ty41 C) λav=>?_
  refine Ct kr ?_
  refine Ae 6 C (C9 ty41) ?_
  rintro _ _ ⟨rfl,rfl⟩
  refine Cu kr ?_
  refine Ah<|Am (S3 15 4 8 C C C)<|Ap<|Bq mixed<|Cc (e8 av [e7 nd,.slice ga es'.length gc,.slice ba (trussG nd es').length bc] 41::vc 3 (.slice ba (trussG nd es').length bc) (trussG nd es')::e8 b3 [e7 0,.slice none 0 0,.slice none 0 0] 41::e8 b2 [e7 nd,.slice ga es'.length gc] 38::e8 b1 [e7 nd,.slice ea es.length ec,.slice na (trussG nd es).length nc] 41::I) 4<|Dr 0 C (A5 (vs:=[_,_,_]) ty41) ?_
  refine Dl (rs:=[1,2]) kr C C<|Ez ?_<|Ed ?_
  ·refine Sr C (A5 (vs:=[_,_,_]) ty41) Bf ?_
   refine Ds1 2<|Sr C (A5 (vs:=[_,_,_]) ty41) Bf ?_
   refine Ds1 3<|Se C (Aj c_ C C<|MChanged_ok (nd:=nd) (nd':=nd) (es:=es) (es':=es') (num:=trussG nd es) (num':=trussG nd es') (A6 hl) (A6 hm) (A6 Z) Bh om om ad aa) ?_
   rintro _ _ ⟨_,_,⟨a7,rfl,rfl⟩,rfl,rfl⟩
   refine ⟨Bf,?_⟩
   refine Ct kr ?_
   refine Ae 4 C (C9 ty41) ?_
   rintro _ _ ⟨rfl,rfl⟩
   refine Du (i:=5) kr C (Bk C) C C (Ba C) ?_
   refine Cu kr ?_
   exact Ah<|Ay<|C0 C ty41 C C mm C (vc 3 (.slice ba (trussG nd es').length bc) (trussG nd es')::I) Bm ⟨ba,bc,_,rfl,rfl⟩
  refine Sr C (A5 (vs:=[_,_,_]) ty41) Bf ?_
  refine Ds1 1<|Sr C (A5 (vs:=[_,_,_]) ty41) Bf ?_
  refine Ds1 3<|Se C (Aj c_ C C<|MChanged_ok (nd:=nd) (nd':=nd) (es:=es) (es':=es') (num:=trussG nd es) (num':=trussG nd es') (A6 hl) (A6 hm) (A6 Z) Bh om om ad aa) ?_
  rintro _ _ ⟨_,_,⟨a9,rfl,rfl⟩,rfl,rfl⟩
  refine ⟨Bf,?_⟩
  refine Ct kr ?_
  refine Ae 4 C (C9 ty41) ?_
  rintro _ _ ⟨rfl,rfl⟩
  refine Du (i:=5) kr C (Bk C) C C (Ba C) ?_
  refine Cu kr ?_
  exact Ah<|Ay<|C0 C ty41 C C mm C (vc 3 (.slice ba (trussG nd es').length bc) (trussG nd es')::I) Bm ⟨ba,bc,_,rfl,rfl⟩
 refine Se1 C (A2 ty41 C) λau=>?_
 refine Ds1 3<|Se C (Aj c_ C C<|Cn (J:=vc 3 (.slice ba bd.length bc) (bd)::e8 au [e7 0,.slice none 0 0,.slice none 0 0] 41::e8 b3 [e7 0,.slice none 0 0,.slice none 0 0] 41::e8 b2 [e7 nd,.slice ga es'.length gc] 38::e8 b1 [e7 nd,.slice ea es.length ec,.slice na (trussG nd es).length nc] 41::I) Bm<|SinkT_ok (nd:=nd) (es:=es') (bs:=bd) (A6 Z) h.ok' ab.1 ab.2<|Bg hT Av) ?_
 rintro _ _ ⟨_,_,⟨rfl,rfl⟩,rfl,rfl⟩
 refine ⟨Bm,?_⟩
 refine Dr 4 C (Bp (cells:=[_,_,_]) ty41 C7 pl41 C C)<|Ct kr ?_
 refine Ae 6 C (C9 ty41) ?_
 rintro _ _ ⟨rfl,rfl⟩
 refine Cu kr ?_
 refine Ah<|Am (S3 15 4 8 C C C)<|Ap<|Bq mixed<|Ee 4<|Dr 0 C (A5 (vs:=[_,_,_]) ty41) ?_
 refine Dl (rs:=[1,2]) kr C C<|Ez ?_<|Ed ?_
 ·refine Sr C (A5 (vs:=[_,_,_]) ty41) Bf ?_
  refine Ds1 2<|Sr C (A5 (vs:=[_,_,_]) ty41) Bf ?_
  refine Ds1 3<|Se C (Aj c_ C C<|MChanged_ok (nd:=nd) (nd':=nd) (es:=es) (es':=es') (num:=trussG nd es) (num':=trussG nd es') (A6 hl) (A6 hm) (A6 Z) Bh om om ad aa) ?_
  rintro _ _ ⟨_,_,⟨a8,rfl,rfl⟩,rfl,rfl⟩
  refine ⟨Bf,?_⟩
  refine Ct kr ?_
  refine Ae 4 C (C9 ty41) ?_
  rintro _ _ ⟨rfl,rfl⟩
  refine Du (i:=5) kr C (Bk C) C C (Ba C) ?_
  refine Cu kr ?_
  exact Ah<|Ay<|C0 C ty41 C C mm C (vc 3 (.slice ba (trussG nd es').length bc) (trussG nd es')::I) Bm ⟨ba,bc,_,rfl,rfl⟩
 refine Sr C (A5 (vs:=[_,_,_]) ty41) Bf ?_
 refine Ds1 1<|Sr C (A5 (vs:=[_,_,_]) ty41) Bf ?_
 refine Ds1 3<|Se C (Aj c_ C C<|MChanged_ok (nd:=nd) (nd':=nd) (es:=es) (es':=es') (num:=trussG nd es) (num':=trussG nd es') (A6 hl) (A6 hm) (A6 Z) Bh om om ad aa) ?_
 rintro _ _ ⟨_,_,⟨a1,rfl,rfl⟩,rfl,rfl⟩
 refine ⟨Bf,?_⟩
 refine Ct kr ?_
 refine Ae 4 C (C9 ty41) ?_
 rintro _ _ ⟨rfl,rfl⟩
 refine Du (i:=5) kr C (Bk C) C C (Ba C) ?_
 refine Cu kr ?_
 exact Ah<|Ay<|C0 C ty41 C C mm C (vc 3 (.slice ba (trussG nd es').length bc) (trussG nd es')::I) Bm ⟨ba,bc,_,rfl,rfl⟩
theorem NextD_ok{κ:Ctx}{I:List Item}{nd u v:Int}{es es':List Pt}(hl:Sl κ I (.slice ea es.length ec) es)(hm:Sl κ I (.slice na (trussG nd es).length nc) (trussG nd es))(Z:Sl κ I (.slice ga es'.length gc) es')(h:OneE nd es' es u v)(hT:TabRd κ I 0 tzCells):eu Tryz.prog κ 287 [.agg #[e7 nd,.slice ea es.length ec,.slice na (trussG nd es).length nc],.agg #[e7 nd,.slice ga es'.length gc],e7 u,e7 v] I (λr J=>∃(a:Option Addr) (c:Nat) (w:Value),r = .tuple #[.agg #[e7 nd,.slice ga es'.length gc,.slice a (trussG nd es').length c],w]/\J=vc 3 (.slice a (trussG nd es').length c) (trussG nd es')::I):=by
 have a3:=edges_le h.ok'
 have av:=edges_le h.ok
 have a1:=one_len h
 have ab:=trussG_lenE h.ok'
 have M:=trussG_lenE h.ok
 refine Ce4 Tryz.func287 C C ?_
 refine Af<|Ge1 (Bc (cs:=[_,_,_]) C C C) λb1=>Ge1 (Bc (cs:=[_,_]) C C C) λb2=>Ge1 (A2 ty41 C) λb3=>Ga C<|Ad<|Af<|Gf fld38_1 C<|Gl ty36 ?_
 refine Gr (Bj Ax C)<|Gf fld41_0 C<|Gf fld38_1 C<|Gl ty36 ?_
 refine Gr (Bj Ax C)<|Gr (Ck C C)<|Ga C<|Ad<|Am (S6 10 8 5 4 2 3 C C C C C C)<|Af<|Ga C<|Ad<|Ap<|Af<|Gf fld38_1 C<|Gl ty36 ?_
 refine Gr (Bj Ax C)<|Gm C<|Ad<|A0<|B1 (σ:=Nat×(Option Addr)×Nat×(List Int)) (λs=>([(2,e7 u),(3,e7 v),(4,.pointer<|some ⟨b1,0,none⟩),(5,.pointer<|some ⟨b2,0,none⟩),(8,.pointer<|some ⟨b3,0,none⟩),(10,.bool<|decide<|((es.length:Nat):Int)<((es'.length:Nat):Int)),(11,.slice s.2.1 s.2.2.2.length s.2.2.1),(25,.slice ga es'.length gc),(26,e7<|((es'.length:Nat):Int)),(27,e7 ((s.1:Nat):Int))]:Env)) (λs=>vc 3 (.slice s.2.1 s.2.2.2.length s.2.2.1) (s.2.2.2)::e8 b3 [e7 0,.slice none 0 0,.slice none 0 0] 41::e8 b2 [e7 nd,.slice ga es'.length gc] 38::e8 b1 [e7 nd,.slice ea es.length ec,.slice na (trussG nd es).length nc] 41::I) (λs=>(s.1<=es'.length)/\(NxI nd es' s.1 s.2.2.2)) (λs=>es'.length - s.1) (0,none,0,([]:List Int)) ⟨om,NxI.zero⟩ (Aa C<|Aa C<|Aa C<|Aa C<|Aa C<|Aa C<|Aa (Dd C<|by first|rfl|simp)<|Aa C<|Aa C<|Aa Cd Bl) (Cv (show Fit κ _ _ from Bm)<|Cm (α:=Int) _ _) ?_
 rintro ⟨k,ba,bc,bd⟩ hp
 dsimp only at hp ⊢
 obtain ⟨hk,hb⟩:=hp
 have az:=hb.len
 refine Af<|Gr (Bb C C)<|Ad<|Ap<|A8 C (λau=>?_)<|λau=>?_
 ·refine Aw (Ah<|Ap<|A0<|Af<|Gr (Az (α:=Pt) (xs:=es') Ax ty105 C C (A6 Z) om<|by first|omega|(rcases aa with ⟨q1,q2,q3⟩|q1<;>omega))<|Gr (B2 (α:=Pt) (xs:=es') ty105 C (A6 Z) om<|by first|omega|(rcases aa with ⟨q1,q2,q3⟩|q1<;>omega))<|Ge1 (A2 ty105 C) λb4=>Ge0 (Da ty105) ?_)
  refine Ad<|Am (S11 13 2 3 4 5 8 10 11 25 26 27 C C C C C C C C C C C)<|Af<|Gf fld41_0 C<|Gl2 ty38 ?_
  refine Gf fld105_0 C<|Gl ef ?_
  refine Gf fld105_1 C<|Gl ef ?_
  refine G.e (Aj c_ C C<|FindG_ok (nd:=nd) (A6 hl) ((e_ es' k).u) ((e_ es' k).v) om) ?_
  rintro _ _ ⟨_,_,⟨y5,rfl,ae,rfl⟩,rfl,rfl⟩
  refine Ga C ?_
  have aa:=find_old h.ok' h.ok om ae
  have ao:=λq:0<=y5/\y5<es.length=>truss_bd64 h.ok' (j:=(y5).toNat) om
  have ai:=λq:0<=y5=>show (((y5).toNat:Nat):Int)=y5 from Int.toNat_of_nonneg q
  refine Ad<|Am (S11 14 2 3 4 5 8 10 11 25 26 27 C C C C C C C C C C C)<|A0<|Af<|Gm C<|Gr (Bb C C)<|Ga C<|Ad<|Am (S12 46 14 2 3 4 5 8 10 11 25 26 27 C C C C C C C C C C C C)<|A8 C (λah=>?_)<|λah=>?_
  ·exact absurd (nx_del h om ae).1 om
  refine Af<|Gm C<|Ga C<|Ad<|Am (S12 57 14 2 3 4 5 8 10 11 25 26 27 C C C C C C C C C C C C)<|A8 C (λap=>?_)<|λap=>?_
  ·omega
  refine Au<|Gm C<|Gf fld41_1 C<|Gl ty22 ?_
  refine Gm C<|Gr (Az (α:=Int) (xs:=trussG nd es) Ab ef C C (A6 hm) om<|by first|omega|(rcases aa with ⟨q1,q2,q3⟩|q1<;>omega))<|Gr (Bw (xs:=trussG nd es) ef C (A6 hm) om<|by first|omega|(rcases aa with ⟨q1,q2,q3⟩|q1<;>omega)) ?_
  have ak:=(nx_del h om ae).2
  refine Ge1 (Co (α:=Int) (cs:=[_]) (xs:=[e_ (trussG nd es) y5]) Ab ef C C dc dc C C C C) λa0=>?_
  refine Ge2 (Cp (α:=Int) (e:=3) (xs:=bd) (ys:=([e_ (trussG nd es) y5]:List Int)) Ab ef C C C mm Bh lcn dc C<|λ_ _=>am) λar aj=>?_
  exact Ga C<|Bo<|Al<|Al<|Ah<|Am (S10 11 2 3 4 5 8 10 25 26 27 C C C C C C C C C C)<|Au<|Gr (Cq C C<|by first|(unfold InR;omega)|rcases aa with ⟨q1,q2,q3⟩|q1;(· have q4:=ao ⟨q1,q2⟩;rw [ai q1] at q4;unfold InR;omega);(· omega))<|Gm C<|Bo<|Cf ((k+1),(ar),(aj),(bd++([e_ (trussG nd es) y5]:List Int)))<|by dsimp only;exact ⟨om,(hb.next ak)⟩
 refine Bx<|Ao<|Ao<|A9<|Ah<|Ap<|Bq mixed<|Cc (e8 b3 [e7 0,.slice none 0 0,.slice none 0 0] 41::e8 b2 [e7 nd,.slice ga es'.length gc] 38::e8 b1 [e7 nd,.slice ea es.length ec,.slice na (trussG nd es).length nc] 41::I) 6<|Dr 0 C (A5 (vs:=[_,_]) ty38) ?_
 have aq:k=es'.length:=by omega
 rw [aq] at hb
 have ad:=hb.all
 refine Dr 1 C (A5 (vs:=[_,_]) ty38) ?_
 refine Dr 2 C (Ai C)<|Dl (rs:=[3,5]) kr C C<|Ez ?_<|Ed ?_
 ·refine Se C (Aj c_ C C<|Cn (J:=vc 3 (.slice ba bd.length bc) (bd)::e8 b3 [e7 0,.slice none 0 0,.slice none 0 0] 41::e8 b2 [e7 nd,.slice ga es'.length gc] 38::e8 b1 [e7 nd,.slice ea es.length ec,.slice na (trussG nd es).length nc] 41::I) Bm<|SinkT_ok (nd:=nd) (es:=es') (bs:=bd) (A6 Z) h.ok ad.1 ad.2<|Bg hT Av) ?_
  rintro _ _ ⟨_,_,⟨rfl,rfl⟩,rfl,rfl⟩
  refine ⟨Bm,?_⟩
  refine Dr 4 C (Bp (cells:=[_,_,_]) ty41 C7 pl41 C C)<|Ds1 5<|Se1 C (A2 ty41 C) λb9=>?_
  refine Ct kr ?_
  refine Ae 6 C (C9 ty41) ?_
  rintro _ _ ⟨rfl,rfl⟩
  refine Cu kr ?_
  refine Ah<|Am (S3 15 4 8 C C C)<|Ap<|Bq mixed<|Cc (e8 b9 [e7 nd,.slice ga es'.length gc,.slice ba (trussG nd es').length bc] 41::vc 3 (.slice ba (trussG nd es').length bc) (trussG nd es')::e8 b3 [e7 0,.slice none 0 0,.slice none 0 0] 41::e8 b2 [e7 nd,.slice ga es'.length gc] 38::e8 b1 [e7 nd,.slice ea es.length ec,.slice na (trussG nd es).length nc] 41::I) 4<|Dr 0 C (A5 (vs:=[_,_,_]) ty41) ?_
  refine Dl (rs:=[1,2]) kr C C<|Ez ?_<|Ed ?_
  ·refine Sr C (A5 (vs:=[_,_,_]) ty41) Bf ?_
   refine Ds1 2<|Sr C (A5 (vs:=[_,_,_]) ty41) Bf ?_
   refine Ds1 3<|Se C (Aj c_ C C<|MChanged_ok (nd:=nd) (nd':=nd) (es:=es) (es':=es') (num:=trussG nd es) (num':=trussG nd es') (A6 hl) (A6 hm) (A6 Z) Bh om om ab M) ?_
   rintro _ _ ⟨_,_,⟨aw,rfl,rfl⟩,rfl,rfl⟩
   refine ⟨Bf,?_⟩
   refine Ct kr ?_
   refine Ae 4 C (C9 ty41) ?_
   rintro _ _ ⟨rfl,rfl⟩
   refine Du (i:=5) kr C (Bk C) C C (Ba C) ?_
   refine Cu kr ?_
   exact Ah<|Ay<|C0 C ty41 C C mm C (vc 3 (.slice ba (trussG nd es').length bc) (trussG nd es')::I) Bm ⟨ba,bc,_,rfl,rfl⟩
  refine Sr C (A5 (vs:=[_,_,_]) ty41) Bf ?_
  refine Ds1 1<|Sr C (A5 (vs:=[_,_,_]) ty41) Bf ?_
  refine Ds1 3<|Se C (Aj c_ C C<|MChanged_ok (nd:=nd) (nd':=nd) (es:=es) (es':=es') (num:=trussG nd es) (num':=trussG nd es') (A6 hl) (A6 hm) (A6 Z) Bh om om ab M) ?_
  rintro _ _ ⟨_,_,⟨a4,rfl,rfl⟩,rfl,rfl⟩
  refine ⟨Bf,?_⟩
  refine Ct kr ?_
  refine Ae 4 C (C9 ty41) ?_
  rintro _ _ ⟨rfl,rfl⟩
  refine Du (i:=5) kr C (Bk C) C C (Ba C) ?_
  refine Cu kr ?_
  exact Ah<|Ay<|C0 C ty41 C C mm C (vc 3 (.slice ba (trussG nd es').length bc) (trussG nd es')::I) Bm ⟨ba,bc,_,rfl,rfl⟩
 refine Se1 C (A2 ty41 C) λan=>?_
 refine Ds1 3<|Se C (Aj c_ C C<|Cn (J:=vc 3 (.slice ba bd.length bc) (bd)::e8 an [e7 0,.slice none 0 0,.slice none 0 0] 41::e8 b3 [e7 0,.slice none 0 0,.slice none 0 0] 41::e8 b2 [e7 nd,.slice ga es'.length gc] 38::e8 b1 [e7 nd,.slice ea es.length ec,.slice na (trussG nd es).length nc] 41::I) Bm<|SinkT_ok (nd:=nd) (es:=es') (bs:=bd) (A6 Z) h.ok ad.1 ad.2<|Bg hT Av) ?_
 rintro _ _ ⟨_,_,⟨rfl,rfl⟩,rfl,rfl⟩
 refine ⟨Bm,?_⟩
 refine Dr 4 C (Bp (cells:=[_,_,_]) ty41 C7 pl41 C C)<|Ct kr ?_
 refine Ae 6 C (C9 ty41) ?_
 rintro _ _ ⟨rfl,rfl⟩
 refine Cu kr ?_
 refine Ah<|Am (S3 15 4 8 C C C)<|Ap<|Bq mixed<|Ee 4<|Dr 0 C (A5 (vs:=[_,_,_]) ty41) ?_
 refine Dl (rs:=[1,2]) kr C C<|Ez ?_<|Ed ?_
 ·refine Sr C (A5 (vs:=[_,_,_]) ty41) Bf ?_
  refine Ds1 2<|Sr C (A5 (vs:=[_,_,_]) ty41) Bf ?_
  refine Ds1 3<|Se C (Aj c_ C C<|MChanged_ok (nd:=nd) (nd':=nd) (es:=es) (es':=es') (num:=trussG nd es) (num':=trussG nd es') (A6 hl) (A6 hm) (A6 Z) Bh om om ab M) ?_
  rintro _ _ ⟨_,_,⟨ax,rfl,rfl⟩,rfl,rfl⟩
  refine ⟨Bf,?_⟩
  refine Ct kr ?_
  refine Ae 4 C (C9 ty41) ?_
  rintro _ _ ⟨rfl,rfl⟩
  refine Du (i:=5) kr C (Bk C) C C (Ba C) ?_
  refine Cu kr ?_
  exact Ah<|Ay<|C0 C ty41 C C mm C (vc 3 (.slice ba (trussG nd es').length bc) (trussG nd es')::I) Bm ⟨ba,bc,_,rfl,rfl⟩
 refine Sr C (A5 (vs:=[_,_,_]) ty41) Bf ?_
 refine Ds1 1<|Sr C (A5 (vs:=[_,_,_]) ty41) Bf ?_
 refine Ds1 3<|Se C (Aj c_ C C<|MChanged_ok (nd:=nd) (nd':=nd) (es:=es) (es':=es') (num:=trussG nd es) (num':=trussG nd es') (A6 hl) (A6 hm) (A6 Z) Bh om om ab M) ?_
 rintro _ _ ⟨_,_,⟨ay,rfl,rfl⟩,rfl,rfl⟩
 refine ⟨Bf,?_⟩
 refine Ct kr ?_
 refine Ae 4 C (C9 ty41) ?_
 rintro _ _ ⟨rfl,rfl⟩
 refine Du (i:=5) kr C (Bk C) C C (Ba C) ?_
 refine Cu kr ?_
 exact Ah<|Ay<|C0 C ty41 C C mm C (vc 3 (.slice ba (trussG nd es').length bc) (trussG nd es')::I) Bm ⟨ba,bc,_,rfl,rfl⟩
variable {κ:Ctx}{I:List Item}
theorem MInsert_ok{nd:Int}{es:List Pt}(hl:Sl κ I (.slice ea es.length ec) es)(hm:Sl κ I (.slice na (trussG nd es).length nc) (trussG nd es))(hG:GrOk nd es){u v:Int}(he:endsP nd u v)(hn:edgeP u v∉es)(hT:TabRd κ I 0 tzCells):eu Tryz.prog κ 283 [.agg #[e7 nd,.slice ea es.length ec,.slice na (trussG nd es).length nc],e7 u,e7 v] I (λr J=>∃(ga:Option Addr) (gc:Nat) (a:Option Addr) (c:Nat) (w:Value),r = .tuple #[.agg #[e7 nd,.slice ga (insB Pt.lt es (edgeP u v)).length gc,.slice a (trussG nd (insB Pt.lt es (edgeP u v))).length c],w,e7 0]/\J=vc 3 (.slice a (trussG nd (insB Pt.lt es (edgeP u v))).length c) (trussG nd (insB Pt.lt es (edgeP u v)))::vc 105 (.slice ga (insB Pt.lt es (edgeP u v)).length gc) (insB Pt.lt es (edgeP u v))::I):=by
 refine Ce3 Tryz.func283 C C ?_
 refine Af<|Ge1 (Bc (cs:=[_,_,_]) C C C) λb1=>Ge1 (A2 ty41 C) λb2=>Ga C<|Ga C<|Ad<|Ap<|Af<|Gl3 ty41 ?_
 refine Gm C<|Gm C<|Gc0 (Aj c_ C C<|MAsked_ok (nd:=nd) (u:=u) (v:=v) (A6 hl) (A6 hm) hG he<|Bg hT Av) ?_
 refine Ga C<|Ad<|Af<|Gm C<|Gr (Bn C C)<|Ad<|Am (S6 19 9 6 3 1 2 C C C C C C)<|A8 C (λad=>?_)<|λad=>?_
 ·refine Af (Gr (Bp (cells:=[_,_,_]) ty41 C7 pl41 C C)<|Gm C<|Ge0 (C9 ty41) ?_)
  refine Ga C<|Ga C<|Ad<|Ay<|Aq ?_
  exact absurd rfl asm
 refine Aw<|Ah<|Af<|Gf fld41_0 C<|Gl2 ty38 ?_
 refine Gm C<|Gm C<|G.e (Aj c_ C C<|AddG_yes (nd:=nd) (u:=u) (v:=v) (A6 hl) (add_zero hG he hn)<|by have:=edges_le hG;omega) ?_
 rintro _ _ ⟨_,_,⟨M,aa,rfl,rfl⟩,rfl,rfl⟩
 refine Gm C<|Gr (Ak C C)<|Gr (Ak C C)<|Ge1 (A2 ty38 C) λb5=>Ge0 (Da ty38) ?_
 refine Ga C<|Ad<|Am (S6 11 10 6 3 1 2 C C C C C C)<|Ap<|Af<|Gm C<|Gr (Bn C C)<|Ad<|A8 C (λae=>?_)<|λae=>?_
 ·refine Af (Gr (Bp (cells:=[_,_,_]) ty41 C7 pl41 C C)<|Gm C<|Ge0 (C9 ty41) ?_)
  refine Ga C<|Ga C<|Ad<|Ay<|Aq ?_
  exact absurd rfl asm
 refine Aw<|Ah<|Af<|Gl3 ty41 ?_
 refine Gl2 ty38 ?_
 refine Gm C<|Gm C<|G.e (Aj c_ C C<|NextI_ok (nd:=nd) (u:=u) (v:=v) (A6 hl) (A6 hm) Bh (OneE.add hG he hn)<|Bg hT Av) ?_
 rintro _ _ ⟨_,_,⟨ab,Z,w8,rfl,rfl⟩,rfl,rfl⟩
 refine Gm C<|Gr (Ak C C)<|Gr (Ak C C)<|Ge1 (A2 ty41 C) λb9=>Ge0 (C9 ty41) ?_
 refine Ga C<|Ad<|Am (S3 13 12 6 C C C)<|Af<|Gl3 ty41 ?_
 refine Gm C<|Ge0 (C9 ty41) ?_
 exact Ga C<|Ga C<|Ad<|Ay<|C4 C ty41 C C C mm C (vc 3 (.slice ab (trussG nd<|insB Pt.lt es<|edgeP u v).length Z) (trussG nd<|insB Pt.lt es<|edgeP u v)::vc 105 (.slice M (insB Pt.lt es<|edgeP u v).length aa) (insB Pt.lt es<|edgeP u v)::I) Bm ⟨M,aa,ab,Z,_,rfl,rfl⟩
theorem MDelete_ok{nd:Int}{es:List Pt}(hl:Sl κ I (.slice ea es.length ec) es)(hm:Sl κ I (.slice na (trussG nd es).length nc) (trussG nd es))(hG:GrOk nd es){u v:Int}(he:endsP nd u v)(hn:edgeP u v∈es)(hT:TabRd κ I 0 tzCells):eu Tryz.prog κ 284 [.agg #[e7 nd,.slice ea es.length ec,.slice na (trussG nd es).length nc],e7 u,e7 v] I (λr J=>∃(ga:Option Addr) (gc:Nat) (a:Option Addr) (c:Nat) (w:Value),r = .tuple #[.agg #[e7 nd,.slice ga (without es (edgeP u v)).length gc,.slice a (trussG nd (without es (edgeP u v))).length c],w,e7 0]/\J=vc 3 (.slice a (trussG nd (without es (edgeP u v))).length c) (trussG nd (without es (edgeP u v)))::vc 105 (.slice ga (without es (edgeP u v)).length gc) (without es (edgeP u v))::I):=by
 refine Ce3 Tryz.func284 C C ?_
 refine Af<|Ge1 (Bc (cs:=[_,_,_]) C C C) λb1=>Ge1 (A2 ty41 C) λb2=>Ga C<|Ga C<|Ad<|Ap<|Af<|Gl3 ty41 ?_
 refine Gm C<|Gm C<|Gc0 (Aj c_ C C<|MAsked_ok (nd:=nd) (u:=u) (v:=v) (A6 hl) (A6 hm) hG he<|Bg hT Av) ?_
 refine Ga C<|Ad<|Af<|Gm C<|Gr (Bn C C)<|Ad<|Am (S6 19 9 6 3 1 2 C C C C C C)<|A8 C (λad=>?_)<|λad=>?_
 ·refine Af (Gr (Bp (cells:=[_,_,_]) ty41 C7 pl41 C C)<|Gm C<|Ge0 (C9 ty41) ?_)
  refine Ga C<|Ga C<|Ad<|Ay<|Aq ?_
  exact absurd rfl asm
 refine Aw<|Ah<|Af<|Gf fld41_0 C<|Gl2 ty38 ?_
 refine Gm C<|Gm C<|Gc2 (Aj c_ C C<|RemG_yes (nd:=nd) (u:=u) (v:=v) (A6 hl) (rem_zero hG he hn)<|by have:=edges_le hG;omega) λM aa=>?_
 refine Gm C<|Gr (Ak C C)<|Gr (Ak C C)<|Ge1 (A2 ty38 C) λb5=>Ge0 (Da ty38) ?_
 refine Ga C<|Ad<|Am (S6 11 10 6 3 1 2 C C C C C C)<|Ap<|Af<|Gm C<|Gr (Bn C C)<|Ad<|A8 C (λae=>?_)<|λae=>?_
 ·refine Af (Gr (Bp (cells:=[_,_,_]) ty41 C7 pl41 C C)<|Gm C<|Ge0 (C9 ty41) ?_)
  refine Ga C<|Ga C<|Ad<|Ay<|Aq ?_
  exact absurd rfl asm
 refine Aw<|Ah<|Af<|Gl3 ty41 ?_
 refine Gl2 ty38 ?_
 refine Gm C<|Gm C<|G.e (Aj c_ C C<|NextD_ok (nd:=nd) (u:=u) (v:=v) (A6 hl) (A6 hm) Bh (OneE.rem hG he hn)<|Bg hT Av) ?_
 rintro _ _ ⟨_,_,⟨ab,Z,w8,rfl,rfl⟩,rfl,rfl⟩
 refine Gm C<|Gr (Ak C C)<|Gr (Ak C C)<|Ge1 (A2 ty41 C) λb9=>Ge0 (C9 ty41) ?_
 refine Ga C<|Ad<|Am (S3 13 12 6 C C C)<|Af<|Gl3 ty41 ?_
 refine Gm C<|Ge0 (C9 ty41) ?_
 exact Ga C<|Ga C<|Ad<|Ay<|C4 C ty41 C C C mm C (vc 3 (.slice ab (trussG nd<|without es<|edgeP u v).length Z) (trussG nd<|without es<|edgeP u v)::vc 105 (.slice M (without es<|edgeP u v).length aa) (without es<|edgeP u v)::I) Bm ⟨M,aa,ab,Z,_,rfl,rfl⟩
end Go.Sl
