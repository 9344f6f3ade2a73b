/- A part of the proofs of statements of this seat: contracts of functions, and the plain laws that they lean on. No conditions. -/
import Derived.Test.YtoagcglbkeomgaaGreatDoorK20
set_option linter.unusedVariables false
set_option linter.unusedSimpArgs false
set_option linter.unusedSectionVars false
set_option maxHeartbeats 4000000
namespace Go.Sl
open Go.Proofs
set_option maxRecDepth 4000
variable{b:List Int}{ec gc j k nc:Nat}{ea ga na:Option Addr}{x y:Int}
section
variable {nd:Int}{es:List Pt}{bs ms:List Int}
theorem trisE_len(nd:Int)(es:List Pt):(trisE nd es).length=es.length:=List.length_map ..
theorem TrB.start(hB:TrB nd es bs)(h1:∀i:Int,0<=i->i<es.length->i∈ms)(h2:∀i∈ms,0<=i/\i<es.length):SinkI (trisE nd es) (trussG nd es) bs ms:=by
 have M:=trisE_len nd es
 exact ⟨by rw [M];exact hB.len,λi hi=>by rw [M];exact h2 i hi,λi Z i1=>hB.low i Z om,λi Z i1=> .inl<|h1 i Z om⟩
theorem trussG_is(Z:GrOk nd es):IsTr (λi:Int=>0<=i/\i<(trisE nd es).length) (triI (trisE nd es)) λi=>(e_ (trussG nd es) i).toNat:=by
 have M:=trussE_is (triG Z) (trussE (triG Z)<|tris_ok Z)
 rw [trussG_eq Z];exact M
theorem nn_sum:∀{l:List Int},(∀x∈l,0<=x)->0<=l.sum
 |[],_=>by simp
 |x::l,h=>by
  have M:=nn_sum (l:=l) λy Z=>h y (List.mem_cons_of_mem _ Z)
  have h2:=h x List.mem_cons_self
  rw [List.sum_cons];omega
theorem le_sum{m:Int}:∀{l:List Int},(∀x∈l,x<=m)->l.sum<=m*(l.length:Int)
 |[],_=>by simp
 |x::l,h=>by
  have M:=le_sum (l:=l) λy Z=>h y (List.mem_cons_of_mem _ Z)
  have h2:=h x List.mem_cons_self
  rw [List.sum_cons,List.length_cons]
  have h3:m*((l.length+1:Nat):Int)=m*(l.length:Int)+m:=by rw [Int.natCast_add,Int.mul_add];simp
  omega
theorem sink_nn{tri:List (List Pt)}{t q:List Int}(h:SinkI tri t b q):0<=b.sum:=nn_sum λx Z=>by
 obtain ⟨i,hi,rfl⟩:=mem_atN Z
 have M:=h.len
 have h2:=h.low (i:Int) om om
 omega
theorem bothL_len2(l:List Pt):(bothL l).length=2*l.length:=by
 induction l with
 |nil=>rfl
 |cons p l ih=>unfold bothL at ih ⊢; rw [List.flatMap_cons,List.length_append,ih];simp;omega
theorem bothL_take2(l:List Pt)(h:k<l.length):bothL (l.take (k+1))=bothL (l.take k)++[(e_ l k).u,(e_ l k).v]:=by
 unfold bothL;rw [Cj l k h,List.flatMap_append];simp
theorem cons_at(h:0<ms.length):ms=e_ ms 0::ms.drop 1:=by
 cases ms with
 |nil=>cases h
 |cons a l=>rfl
end
theorem Sink_ok{κ:Ctx}{I:List Item}{nd:Int}{ba:Option Addr}{bc:Nat}{es:List Pt}{bs:List Int}(hl:Sl κ I (.slice ea es.length ec) es)(hG:GrOk nd es)(hB:TrB nd es bs)(a4:∀x∈bs,0<=x/\x<=1000)(hT:TabRd κ I 0 tzCells):eu Tryz.prog κ 288 [.agg #[e7 nd,.slice ea es.length ec],.slice ba bs.length bc] (vk 3 ba bc bs::I) (λr J=>r = .slice ba bs.length bc/\J=vc 3 (.slice ba bs.length bc) (trussG nd es)::I):=by
 have bt:=hG.rng
 have b8:=edges_le hG
 have b3:=hB.len
 have bq:=nn_sum (λx hx=>(a4 x hx).1)
 have bp:=le_sum (λx hx=>(a4 x hx).2)
 have b4:=trisE_len nd es
 refine Ce2 Tryz.func288 C C ?_
 refine Af<|Ge1 (Bg (cs:=[_,_]) C C C) λb1=>Ga C<|Ac<|Af<|Gl2 ty38 ?_
 refine G.e (Ak c_ C C<|Triangles_ok (nd:=nd) (A8 hl) hG om<|Bm hT Ay) ?_
 rintro _ _ ⟨_,_,⟨ae,ah,Z,rfl,aq,rfl⟩,rfl,rfl⟩
 have cb:Z.length=(trisE nd es).length:=by rw [←aq,List.length_map]
 refine Eh (J:=vk 198 ae ah Z::e8 b1 [e7 nd,.slice ea es.length ec] 38::vk 3 ba bc bs::(rgI Z++I)) (C2<|List.Perm.cons _<|Dl (A:=rgI Z) (L:=[e8 b1 [e7 nd,.slice ea es.length ec] 38,vk 3 ba bc bs]) (T:=I)) ?_
 refine Ga C<|Ac<|Af<|G.e (Ak c_ C C Queue_ok) ?_
 rintro _ _ ⟨_,_,⟨ad,rfl,rfl⟩,rfl,rfl⟩
 refine Gm C<|Gr (Am C C)<|Gr (Am C C)<|Ga C<|Ga C<|Ac<|Aq<|Af<|Gm C<|Gr (Bh Ab C)<|Gm C<|Ac<|Ao (S6 25 24 7 6 5 1 C C C C C C)<|Aw<|Bu (σ:=Nat×(Option Addr)×Nat×(List Int)) (λs=>([(1,.slice ba bs.length bc),(5,.slice ae Z.length ah),(6,.func (.func 292) #[] #[(pt ad)]),(7,.func (.func 293) #[] #[(pt ad)]),(24,e7 ((bs.length:Nat):Int)),(25,e7 ((s.1:Nat):Int))]:Env)) (λs=>vk 3 s.2.1 s.2.2.1 s.2.2.2::e8 ad [.slice s.2.1 s.2.2.2.length s.2.2.1] 22::vk 198 ae ah Z::e8 b1 [e7 nd,.slice ea es.length ec] 38::vk 3 ba bc bs::(rgI Z++I)) (λs=>(s.1<=bs.length)/\(s.2.2.2.length=s.1)/\(∀i:Int,i∈s.2.2.2↔0<=i/\i<(s.1:Int))) (λs=>bs.length - s.1) (0,none,0,([]:List Int)) ⟨om,rfl,(λi=>⟨(λh=>by cases h),(λh=>by omega)⟩)⟩ (Aa C<|Aa C<|Aa C<|Aa C<|Aa C<|Aa B2 Bi) Bc ?_
 rintro ⟨k,qa,qc,q⟩ hp
 dsimp only at hp ⊢
 obtain ⟨hk,b6,hq⟩:=hp
 refine Af<|Gr (A4 C C)<|Ac<|Aq<|A5 C (λbf=>?_)<|λbf=>?_
 ·refine Av (Ah<|Aq<|Aw<|Af<|Gm C<|Ga C<|Ac<|Ar<|Gm C<|Gm C<|Gc2 (Cv c_ C C C<|Cm (J:=vk 3 qa qc q::e8 ad [.slice qa q.length qc] 22::vk 198 ae ah Z::e8 b1 [e7 nd,.slice ea es.length ec] 38::vk 3 ba bc bs::(rgI Z++I)) Bl<|QPut_ok (b:=ad) (qs:=q) (i:=(k:Int)) olp) λa9 bh=>?_)
  exact Bj<|Aj<|Ah<|Ar<|Gr (Rad C C)<|Gm C<|Bj<|B3 ((k+1),(a9),(bh),(q++[(k:Int)]))<|by dsimp only;exact ⟨om,lap,(λi=>by rw [List.mem_append,List.mem_singleton,hq];omega)⟩
 refine Bs<|Al<|Al<|A2<|Ah<|Aw<|Bu (σ:=(List Int)×(Option Addr)×Nat×(List Int)) (λs=>([(1,.slice ba bs.length bc),(5,.slice ae Z.length ah),(6,.func (.func 292) #[] #[(pt ad)]),(7,.func (.func 293) #[] #[(pt ad)])]:Env)) (λs=>vk 3 s.2.1 s.2.2.1 s.2.2.2::e8 ad [.slice s.2.1 s.2.2.2.length s.2.2.1] 22::vk 198 ae ah Z::e8 b1 [e7 nd,.slice ea es.length ec] 38::vc 3 (.slice ba bs.length bc) (s.1)::(rgI Z++I)) (λs=>(SinkI (trisE nd es) (trussG nd es) s.1 s.2.2.2)/\((s.2.2.2.length:Int)+200*s.1.sum<=(bs.length:Int)+200*bs.sum)) (λs=>s.2.2.2.length+200*s.1.sum.toNat) (bs,qa,qc,q) (show (SinkI (trisE nd es) (trussG nd es) (bs:List Int) (q:List Int))/\(((q:List Int).length:Int)+200*(bs:List Int).sum<=(bs.length:Int)+200*bs.sum) from ⟨(hB.start (λi h0 h1=>(hq i).2 ⟨h0,by omega⟩) (λi hi=>by have:=(hq i).1 hi;omega)),om⟩) (Aa C<|Aa C<|Aa C<|Aa C Bi) Bc ?_
 rintro ⟨M,ma,mc,ms⟩ hp
 dsimp only at hp ⊢
 obtain ⟨hS,ca⟩:=hp
 have bu:=hS.len
 have b7:=sink_nn hS
 have br:=hS.low
 refine Aw<|Af<|Gm C<|G.e (Cv c_ C C C<|Cm (J:=vk 3 ma mc ms::e8 ad [.slice ma ms.length mc] 22::vk 198 ae ah Z::e8 b1 [e7 nd,.slice ea es.length ec] 38::vc 3 (.slice ba bs.length bc) (M)::(rgI Z++I)) Bl<|QTake_ok (b:=ad) (qs:=ms) olp) ?_
 rintro _ _ ⟨_,_,(⟨a5,rfl,rfl⟩|⟨bk,aj,ai,rfl,rfl⟩),rfl,rfl⟩
 ·skip
  refine Gm C<|Gr (Am C C)<|Gr (Am C C)<|Ga C<|Ga C<|Ac<|Aq<|Af<|Gm C<|Gr (Co C)<|Ac<|Dj C<|Af<|Gm C<|Ga C<|Ac<|Ao (S1 4 C)<|Az<|Ap<|A7<|Ap<|A7 ?_
  have bj:ms=[]:=by assumption
  rw [bj] at hS
  have bi:=hS.done (triG hG) (trussG_is hG) (by rw [trussG_lenE hG];omega)
  exact A1 C C (vc 3 (.slice ba bs.length bc) (trussG nd es)::I) (by rw [←bi];exact Bl) ⟨rfl,rfl⟩
 skip
 refine Gm C<|Gr (Am C C)<|Gr (Am C C)<|Ga C<|Ga C<|Ac<|Aq<|Af<|Gm C<|Gr (Co C)<|Ac<|Dp C<|Av<|Ah<|Af<|Ga C ?_
 have an:=hS.rng _ (B1 (xs:=ms) (i:=0) om om)
 have ap:(e_ Z<|e_ ms 0).xs=e_ (trisE nd es) (e_ ms 0):=rows_atG aq an.1 om
 have be:=(tris_ok hG).len _ (B1 (xs:=(trisE nd es)) an.1 om)
 rw [←ap] at be
 have a1:SinkI (trisE nd es) (trussG nd es) M ((e_ ms 0)::ms.drop 1):=by rw [←cons_at om];exact hS
 have bb:=fun (p:Pt) (hp:p∈(e_ Z<|e_ ms 0).xs)=>((triG hG).rng _ an.1 an.2 p (ap▸hp)).1
 refine Ac<|Ao (S6 11 9 1 5 6 7 C C C C C C)<|Aq<|Af<|Gm C<|Gm C<|Gr (Ax (α:=(RowG Pt)) (xs:=Z) Dd ty198 C C Bf (by first|omega|(have h8:=aa om;omega))<|by first|omega|(have h8:=aa om;omega))<|Gr (B7 (α:=(RowG Pt)) (xs:=Z) (u:= .slice (e_ Z<|e_ ms 0).a (e_ Z<|e_ ms 0).xs.length (e_ Z<|e_ ms 0).c) ty198 C Bf (by first|omega|(have h8:=aa om;omega)) (by first|omega|(have h8:=aa om;omega)) C)<|Gr (Bh Bv C)<|Gm C<|Ac<|Aw<|Bu (σ:=Nat×(Option Addr)×Nat×(List Int)) (λs=>([(1,.slice ba bs.length bc),(5,.slice ae Z.length ah),(6,.func (.func 292) #[] #[(pt ad)]),(7,.func (.func 293) #[] #[(pt ad)]),(9,e7<|e_ ms 0),(11,.slice s.2.1 s.2.2.2.length s.2.2.1),(43,.slice (e_ Z<|e_ ms 0).a (e_ Z<|e_ ms 0).xs.length (e_ Z<|e_ ms 0).c),(44,e7<|(((e_ Z<|e_ ms 0).xs.length:Nat):Int)),(45,e7 ((s.1:Nat):Int))]:Env)) (λs=>vk 3 s.2.1 s.2.2.1 s.2.2.2::vk 3 aj ai (List.drop 1 ms)::e8 ad [.slice aj (List.drop 1 ms).length ai] 22::vk 198 ae ah Z::e8 b1 [e7 nd,.slice ea es.length ec] 38::vc 3 (.slice ba bs.length bc) (M)::(rgI Z++I)) (λs=>(s.1<=(e_ Z<|e_ ms 0).xs.length)/\(s.2.2.2=((e_ Z<|e_ ms 0).xs.take s.1).map λp=>min (e_ M p.u)<|e_ M p.v)) (λs=>(e_ Z<|e_ ms 0).xs.length - s.1) (0,none,0,([]:List Int)) ⟨om,rfl⟩ (Aa C<|Aa C<|Aa C<|Aa C<|Aa C<|Aa (Cx C<|by first|rfl|simp)<|Aa C<|Aa C<|Aa B2 Bi) (Cq (show Fit κ _ _ from Bl)<|Cb (α:=Int) _ _) ?_
 rintro ⟨j,oa,oc,o⟩ hp
 dsimp only at hp ⊢
 obtain ⟨hj,ho⟩:=hp
 have b2:o.length=j:=by rw [ho,List.length_map,List.length_take];omega
 have aa:=λh:j<(e_ Z<|e_ ms 0).xs.length=>bb _ (B1 (xs:=(e_ Z<|e_ ms 0).xs) (i:=(j:Int)) om om)
 refine Af<|Gr (A4 C C)<|Ac<|Aq<|A5 C (λa8=>?_)<|λa8=>?_
 ·refine Av (Ah<|Aq<|Aw<|Af<|Gr (Ax (α:=Pt) (xs:=(e_ Z<|e_ ms 0).xs) Bv ty200 C C (C3<|by repeat (first|exact rgI_mem (rs:=Z) (i:=(e_ ms 0)) om om|apply List.mem_cons_of_mem)) (by first|omega|(have h8:=aa om;omega))<|by first|omega|(have h8:=aa om;omega))<|Gr (Bx (α:=Pt) (xs:=(e_ Z<|e_ ms 0).xs) ty200 C (C3<|by repeat (first|exact rgI_mem (rs:=Z) (i:=(e_ ms 0)) om om|apply List.mem_cons_of_mem)) (by first|omega|(have h8:=aa om;omega))<|by first|omega|(have h8:=aa om;omega))<|Ge1 (A3 ty200 C) λa7=>Ge0 (Cz ty200) ?_)
  refine Ac<|Bq mixed<|Ca (e8 a7 [e7 ((e_ ((e_ Z<|e_ ms 0).xs) (j:Int)).u),e7<|(e_ ((e_ Z<|e_ ms 0).xs) (j:Int)).v] 200::vk 3 aj ai (List.drop 1 ms)::e8 ad [.slice aj (List.drop 1 ms).length ai] 22::vk 198 ae ah Z::e8 b1 [e7 nd,.slice ea es.length ec] 38::vc 3 (.slice ba bs.length bc) (M)::(rgI Z++I)) 15<|Dr 0 C (Ai C)<|Dr 1 C (Ai C)<|Dr 2 C (B4 B6 ty2 C C om om)<|Dr 3 C (Bb ef) ?_
  refine Dr 4 C (Ax (α:=Int) (xs:=M) Ab ef C C Bf (by first|omega|(have h8:=aa om;omega))<|by first|omega|(have h8:=aa om;omega))<|Dr 5 C (Br (xs:=M) ef C Bf (by first|omega|(have h8:=aa om;omega))<|by first|omega|(have h8:=aa om;omega))<|Dr 6 C (Ai C)<|Dr 7 C (B4 B6 ty2 C C om om)<|Dr 8 C (Bb ef) ?_
  refine Dr 9 C (Ax (α:=Int) (xs:=M) Ab ef C C Bf (by first|omega|(have h8:=aa om;omega))<|by first|omega|(have h8:=aa om;omega))<|Dr 10 C (Br (xs:=M) ef C Bf (by first|omega|(have h8:=aa om;omega))<|by first|omega|(have h8:=aa om;omega))<|Dr 11 C (Ep C C)<|Ds1 12<|Se1 C (Cf (α:=Int) (cs:=[_]) (xs:=[if (e_ M<|(e_ ((e_ Z<|e_ ms 0).xs) (j:Int)).v)<(e_ M<|(e_ ((e_ Z<|e_ ms 0).xs) (j:Int)).u) then (e_ M<|(e_ ((e_ Z<|e_ ms 0).xs) (j:Int)).v) else (e_ M<|(e_ ((e_ Z<|e_ ms 0).xs) (j:Int)).u)]) Ab ef C C dc dc C C C C) λbw=>?_
  refine Ds1 13<|Se2 C (Cg (α:=Int) (e:=3) (xs:=o) (ys:=([if (e_ M<|(e_ ((e_ Z<|e_ ms 0).xs) (j:Int)).v)<(e_ M<|(e_ ((e_ Z<|e_ ms 0).xs) (j:Int)).u) then (e_ M<|(e_ ((e_ Z<|e_ ms 0).xs) (j:Int)).v) else (e_ M<|(e_ ((e_ Z<|e_ ms 0).xs) (j:Int)).u)]:List Int)) Ab ef C C C mm Bf lcn dc C<|λ_ _=>am) λay a0=>?_
  exact Dr 14 C (Bd C)<|Dz<|Aj<|Ah<|Ao (S9 11 1 5 6 7 9 43 44 45 C C C C C C C C C)<|Ar<|Gr (Rad C C)<|Gm C<|Bj<|B3 ((j+1),(ay),(a0),(o++([if (e_ M<|(e_ ((e_ Z<|e_ ms 0).xs) (j:Int)).v)<(e_ M<|(e_ ((e_ Z<|e_ ms 0).xs) (j:Int)).u) then (e_ M<|(e_ ((e_ Z<|e_ ms 0).xs) (j:Int)).v) else (e_ M<|(e_ ((e_ Z<|e_ ms 0).xs) (j:Int)).u)]:List Int)))<|by dsimp only;exact ⟨om,(by rw [Cj _ j om,List.map_append,←ho];simp only [List.map_cons,List.map_nil];first|rfl|(rw [ifmin]))⟩
 refine Bs<|Al<|Al<|A2<|Ah<|Aq<|Bq mixed<|Ef 8<|Dr 0 C (Ai C)<|Dr 2 C (Ai C)<|Dr 3 C (Ai C)<|Dr 4 C (Ax (α:=Int) (xs:=M) Ab ef C C Bf (by first|omega|(have h8:=aa om;omega))<|by first|omega|(have h8:=aa om;omega))<|Dr 5 C (Br (xs:=M) ef C Bf (by first|omega|(have h8:=aa om;omega))<|by first|omega|(have h8:=aa om;omega))<|Ds1 1<|Se C (Ak c_ C C<|H_ok (xs:=o) Bf om) ?_
 rintro _ _ ⟨_,_,⟨ab,rfl,ak,rfl⟩,rfl,rfl⟩
 refine ⟨Ay,?_⟩
 refine Dr 6 C (Ep C C) ?_
 have bn:(if (e_ M<|e_ ms 0)<(ab:Int) then (e_ M<|e_ ms 0) else (ab:Int))=(min (ab:Int)<|e_ M<|e_ ms 0):=by split<;>omega
 rw [bn]
 have az:HI (minsT (trisE nd es) M<|e_ ms 0) (ab:Int):=by rw [ho,show j=(e_ Z<|e_ ms 0).xs.length by omega,List.take_length,ap] at ak;exact ak
 refine Dr 7 C (Bd C)<|Dz<|Ah<|Ao (S6 14 1 5 6 7 9 C C C C C C)<|Af<|Gm C<|Gm C<|Gm C<|Gr (Ax (α:=Int) (xs:=M) Ab ef C C Bf (by first|omega|(have h8:=aa om;omega))<|by first|omega|(have h8:=aa om;omega))<|Gr (Br (xs:=M) ef C Bf (by first|omega|(have h8:=aa om;omega))<|by first|omega|(have h8:=aa om;omega))<|Gr (A4 C C)<|Ac<|A5 C (λbm=>?_)<|λbm=>?_
 ·refine Af (Gm C<|Gm C<|Gm C<|Gr (Ax (α:=Int) (xs:=M) Ab ef C C Bf (by first|omega|(have h8:=aa om;omega))<|by first|omega|(have h8:=aa om;omega))<|Ge0 (Cu (α:=Int) (xs:=M) (e:=3) (new:=(min (ab:Int)<|e_ M<|e_ ms 0)) ef C C C (by first|omega|(have h8:=aa om;omega)) (by first|omega|(have h8:=aa om;omega)) am) ?_)
  refine Ac<|Ao (S5 1 5 6 7 9 C C C C C)<|Af<|Gm C<|Gm C<|Gr (Ax (α:=(RowG Pt)) (xs:=Z) Dd ty198 C C Bf (by first|omega|(have h8:=aa om;omega))<|by first|omega|(have h8:=aa om;omega))<|Gr (B7 (α:=(RowG Pt)) (xs:=Z) (u:= .slice (e_ Z<|e_ ms 0).a (e_ Z<|e_ ms 0).xs.length (e_ Z<|e_ ms 0).c) ty198 C Bf (by first|omega|(have h8:=aa om;omega)) (by first|omega|(have h8:=aa om;omega)) C)<|Gr (Bh Bv C)<|Gm C<|Ac<|Aw<|Bu (σ:=Nat×(Option Addr)×Nat×(List Int)) (λs=>([(1,.slice ba bs.length bc),(5,.slice ae Z.length ah),(6,.func (.func 292) #[] #[(pt ad)]),(7,.func (.func 293) #[] #[(pt ad)]),(84,.slice (e_ Z<|e_ ms 0).a (e_ Z<|e_ ms 0).xs.length (e_ Z<|e_ ms 0).c),(85,e7<|(((e_ Z<|e_ ms 0).xs.length:Nat):Int)),(86,e7 ((s.1:Nat):Int))]:Env)) (λs=>vk 3 s.2.1 s.2.2.1 s.2.2.2::e8 ad [.slice s.2.1 s.2.2.2.length s.2.2.1] 22::vk 3 oa oc o::vk 198 ae ah Z::e8 b1 [e7 nd,.slice ea es.length ec] 38::vc 3 (.slice ba bs.length bc) (List.set M (e_ ms 0).toNat ((min (ab:Int)<|e_ M<|e_ ms 0)))::(rgI Z++I)) (λs=>(s.1<=(e_ Z<|e_ ms 0).xs.length)/\(s.2.2.2=ms.drop 1++bothL ((e_ Z<|e_ ms 0).xs.take s.1))) (λs=>(e_ Z<|e_ ms 0).xs.length - s.1) (0,aj,ai,List.drop 1 ms) ⟨om,(by unfold bothL;simp)⟩ (Aa C<|Aa C<|Aa C<|Aa C<|Aa C<|Aa C<|Aa B2 Bi) Bl ?_
  rintro ⟨j2,pa,pc,ps⟩ hp
  dsimp only at hp ⊢
  obtain ⟨b5,av⟩:=hp
  have b9:ps.length=(ms.length - 1)+2*j2:=by rw [av,List.length_append,List.length_drop,bothL_len2,List.length_take];omega
  refine Af<|Gr (A4 C C)<|Ac<|Aq<|A5 C (λbo=>?_)<|λbo=>?_
  ·refine Av (Ah<|Aq<|Aw<|Af<|Gr (Ax (α:=Pt) (xs:=(e_ Z<|e_ ms 0).xs) Bv ty200 C C (C3<|by repeat (first|exact rgI_mem (rs:=Z) (i:=(e_ ms 0)) om om|apply List.mem_cons_of_mem)) (by first|omega|(have h8:=aa om;omega))<|by first|omega|(have h8:=aa om;omega))<|Gr (Bx (α:=Pt) (xs:=(e_ Z<|e_ ms 0).xs) ty200 C (C3<|by repeat (first|exact rgI_mem (rs:=Z) (i:=(e_ ms 0)) om om|apply List.mem_cons_of_mem)) (by first|omega|(have h8:=aa om;omega))<|by first|omega|(have h8:=aa om;omega))<|Ge1 (A3 ty200 C) λa3=>Ge0 (Cz ty200) ?_)
   refine Ac<|Af<|Gm C<|Gr (B4 B6 ty2 C C om om)<|Gl ef ?_
   refine Gc2 (Cv c_ C C C<|Cm (J:=vk 3 pa pc ps::e8 ad [.slice pa ps.length pc] 22::e8 a3 [e7 ((e_ ((e_ Z<|e_ ms 0).xs) (j2:Int)).u),e7<|(e_ ((e_ Z<|e_ ms 0).xs) (j2:Int)).v] 200::vk 3 oa oc o::vk 198 ae ah Z::e8 b1 [e7 nd,.slice ea es.length ec] 38::vc 3 (.slice ba bs.length bc) (List.set M (e_ ms 0).toNat ((min (ab:Int)<|e_ M<|e_ ms 0)))::(rgI Z++I)) Bl<|QPut_ok (b:=ad) (qs:=ps) (i:=(e_ ((e_ Z<|e_ ms 0).xs) (j2:Int)).u) olp) λar au=>?_
   refine Ac<|Ao (S8 16 1 5 6 7 84 85 86 C C C C C C C C)<|Ar<|Gm C<|Gr (B4 B6 ty2 C C om om)<|Gl ef ?_
   refine Gc2 (Cv c_ C C C<|Cm (J:=vk 3 ar au (ps++[(e_ ((e_ Z<|e_ ms 0).xs) (j2:Int)).u])::e8 ad [.slice ar (ps++[(e_ ((e_ Z<|e_ ms 0).xs) (j2:Int)).u]).length au] 22::e8 a3 [e7 ((e_ ((e_ Z<|e_ ms 0).xs) (j2:Int)).u),e7<|(e_ ((e_ Z<|e_ ms 0).xs) (j2:Int)).v] 200::vk 3 oa oc o::vk 198 ae ah Z::e8 b1 [e7 nd,.slice ea es.length ec] 38::vc 3 (.slice ba bs.length bc) (List.set M (e_ ms 0).toNat ((min (ab:Int)<|e_ M<|e_ ms 0)))::(rgI Z++I)) Bl<|QPut_ok (b:=ad) (qs:=ps++[(e_ ((e_ Z<|e_ ms 0).xs) (j2:Int)).u]) (i:=(e_ ((e_ Z<|e_ ms 0).xs) (j2:Int)).v) olp) λax aw=>?_
   exact Bj<|Aj<|Ah<|Ar<|Gr (Rad C C)<|Gm C<|Bj<|B3 ((j2+1),(ax),(aw),((ps++[(e_ ((e_ Z<|e_ ms 0).xs) (j2:Int)).u])++[(e_ ((e_ Z<|e_ ms 0).xs) (j2:Int)).v]))<|by dsimp only;exact ⟨om,(by rw [bothL_take2 _ om,←List.append_assoc,←av];simp)⟩
  refine Bs<|Al<|Al<|A2<|Aj ?_
  have a6:min (ab:Int) (e_ M<|e_ ms 0)=(ab:Int):=by omega
  have ao:SinkI (trisE nd es) (trussG nd es) (List.set M (e_ ms 0).toNat ((min (ab:Int)<|e_ M<|e_ ms 0))) (ps):=by rw [a6,av,show j2=(e_ Z<|e_ ms 0).xs.length by omega,List.take_length,ap];exact a1.sink (triG hG) (trussG_is hG) az om
  have bv:=sink_nn ao
  have bg:(List.set M (e_ ms 0).toNat ((min (ab:Int)<|e_ M<|e_ ms 0))).sum=M.sum - e_ M (e_ ms 0)+min (ab:Int) (e_ M<|e_ ms 0):=by rw [sumL_set om om]
  exact B3 ((List.set M (e_ ms 0).toNat ((min (ab:Int)<|e_ M<|e_ ms 0))),(pa),(pc),(ps))<|by dsimp only;exact ⟨ao,om⟩
 refine Av<|Aj ?_
 have ao:SinkI (trisE nd es) (trussG nd es) M (List.drop 1 ms):=a1.pass az om
 have bg:(List.drop 1 ms).length=ms.length - 1:=by rw [List.length_drop]
 exact B3 ((M),(aj),(ai),(List.drop 1 ms))<|by dsimp only;exact ⟨ao,om⟩
section
variable {nd:Int}{es es':List Pt}{u v:Int}
theorem trusT_at(Z:GrOk nd es)(M:j<es.length):((trusT nd es (e_ es j):Nat):Int)=e_ (trussG nd es) j:=by
 unfold trusT
 rw [idx_eq Z M]
 have:=truss_pos Z (i:=(j:Int)) om om
 omega
structure NxE (nd:Int) (es':List Pt) (k:Nat) (x:Int):Prop where
 low:0<=e_ (trussG nd es') k/\e_ (trussG nd es') k<=x
 up:x<=100
theorem truss_bd64(Z:GrOk nd es)(hj:j<es.length):0<=e_ (trussG nd es) j/\e_ (trussG nd es) j<=64:=by
 have M:=trussG_pos Z (u:=(j:Int)) om (by rw [trussG_lenE Z];omega)
 have:=Z.rng
 omega
theorem find_old(M:GrOk nd es)(Z:GrOk nd es')(hk:k<es'.length)(h:FindP nd es (e_ es' k).u (e_ es' k).v y):(0<=y/\y<es.length/\e_ es y=e_ es' k)\/(y = -1/\e_ es' k∉es):=by
 have hm:=B1 (xs:=es') (i:=(k:Int)) om om
 have hs:=edgeP_self (e:=e_ es' k) (by have:=Z.edge _ hm;omega)
 unfold FindP at h
 rw [hs] at h
 rcases h with ⟨_,j,rfl,hj,e⟩|⟨rfl,h1|h1⟩
 ·exact .inl ⟨by omega,by omega,e⟩
 ·exact absurd (checkG_ok.2 M) h1
 exact .inr ⟨rfl,h1⟩
theorem nx_new(h:OneE nd es es' u v)(M:k<es'.length)(hf:FindP nd es (e_ es' k).u (e_ es' k).v y)(hy:y<0):NxE nd es' k ((commonG nd es' u v).length:Int):=by
 have hm:=B1 (xs:=es') (i:=(k:Int)) om om
 rcases find_old h.ok h.ok' M hf with Z|⟨_,Z⟩
 ·omega
 have e:=((h.mem _).1 hm).resolve_left Z
 have h2:=h.truss_new
 have h3:=trusT_at h.ok' M
 rw [e] at h3
 have h4:=truss_pos h.ok' (i:=(k:Int)) om om
 have h5:=commonG_len nd es' u v
 exact ⟨by omega,by omega⟩
theorem nx_ins(h:OneE nd es es' u v)(M:k<es'.length)(hf:FindP nd es (e_ es' k).u (e_ es' k).v y)(hy:¬y<0):NxE nd es' k (e_ (trussG nd es) y+1):=by
 rcases find_old h.ok h.ok' M hf with ⟨h0,h1,e⟩|h1
 ·obtain ⟨j,rfl⟩:=Int.eq_ofNat_of_zero_le h0
  have Z:j<es.length:=by omega
  have h2:=(h.truss (e:=e_ es j)<|B1 om om).2
  have h3:=trusT_at h.ok' M
  rw [←e] at h3
  have h4:=trusT_at h.ok Z
  have h5:=truss_pos h.ok' (i:=(k:Int)) om om
  have h6:=truss_bd64 h.ok Z
  exact ⟨by omega,by omega⟩
 omega
theorem nx_del(h:OneE nd es es' u v)(hk:k<es.length)(hf:FindP nd es' (e_ es k).u (e_ es k).v y):0<=y/\NxE nd es k (e_ (trussG nd es') y):=by
 have hm:=B1 (xs:=es) (i:=(k:Int)) om om
 rcases find_old h.ok' h.ok hk hf with ⟨h0,Z,e⟩|⟨_,Z⟩
 ·obtain ⟨j,rfl⟩:=Int.eq_ofNat_of_zero_le h0
  have M:j<es'.length:=by omega
  have h2:=(h.truss hm).1
  have h3:=trusT_at h.ok hk
  have h4:=trusT_at h.ok' M
  rw [e] at h4
  have h5:=truss_pos h.ok (i:=(k:Int)) om om
  have h6:=truss_bd64 h.ok' M
  exact ⟨h0,⟨by omega,by omega⟩⟩
 exact absurd ((h.mem _).2 (.inl hm)) Z
structure NxI (nd:Int) (es':List Pt) (k:Nat) (b:List Int):Prop where
 len:b.length=k
 val:∀i:Nat,i<k->NxE nd es' i (e_ b i)
theorem NxI.zero:NxI nd es' 0 []:=⟨rfl,λi h=>absurd h (Nat.not_lt_zero _)⟩
theorem NxI.next(h:NxI nd es' k b)(Z:NxE nd es' k x):NxI nd es' (k+1) (b++[x]):=⟨by rw [List.length_append,h.len];rfl,λi hi=>by
 by_cases e:i<k
 ·have e1:e_ (b++[x]) i=e_ b i:=by rw [Cn _ i (by rw [List.length_append,h.len];omega),Cn _ i<|by rw [h.len];exact e,List.getElem_append_left]
  rw [e1];exact h.val i e
 have e2:i=b.length:=by rw [h.len];omega
 have e1:e_ (b++[x]) i=x:=by subst e2;rw [Cn _ _ (by simp)];simp
 rw [e1,show i=k by omega];exact Z⟩
theorem NxI.all(h:NxI nd es' es'.length b):TrB nd es' b/\∀x∈b,0<=x/\x<=1000:=by
 refine ⟨⟨h.len,λi h0 Z=>?_⟩,λx hx=>?_⟩
 ·obtain ⟨j,rfl⟩:=Int.eq_ofNat_of_zero_le h0
  exact (h.val j om).low
 obtain ⟨j,M,rfl⟩:=mem_atN hx
 rw [h.len] at M
 have Z:=h.val j M
 have h2:=Z.low
 have h3:=Z.up
 omega
theorem one_len(h:OneE nd es es' u v):es'.length=es.length+1:=by
 have Z:es'.Perm (edgeP u v::es):=(List.perm_ext_iff_of_nodup (Fb h.ok'.asc)<|List.nodup_cons.2 ⟨h.no,Fb h.ok.asc⟩).2 λp=>by rw [h.mem,List.mem_cons];exact Or.comm
 rw [Z.length_eq];rfl
end
theorem SinkT_ok{κ:Ctx}{I:List Item}{nd:Int}{M:Option Addr}{Z:Nat}{es:List Pt}{bs:List Int}(hl:Sl κ I (.slice ea es.length ec) es)(hG:GrOk nd es)(hB:TrB nd es bs)(aa:∀x∈bs,0<=x/\x<=1000)(hT:TabRd κ I 0 tzCells):eu Tryz.prog κ 288 [.agg #[e7 nd,.slice ea es.length ec],.slice M bs.length Z] (vk 3 M Z bs::I) λr J=>r = .slice M (trussG nd es).length Z/\J=vk 3 M Z (trussG nd es)::I:=by
 have e:bs.length=(trussG nd es).length:=by rw [trussG_lenE hG];exact hB.len
 exact (Sink_ok hl hG hB aa hT).mono λr J h=>⟨h.1.trans<|by rw [e],h.2.trans<|by rw [e]⟩
theorem NextI_ok{κ:Ctx}{I:List Item}{nd u v:Int}{es es':List Pt}(hl:Sl κ I (.slice ea es.length ec) es)(hm:Sl κ I (.slice na (trussG nd es).length nc) (trussG nd es))(Z:Sl κ I (.slice ga es'.length gc) es')(h:OneE nd es es' u v)(hT:TabRd κ I 0 tzCells):eu Tryz.prog κ 287 [.agg #[e7 nd,.slice ea es.length ec,.slice na (trussG nd es).length nc],.agg #[e7 nd,.slice ga es'.length gc],e7 u,e7 v] I (λr J=>∃(a:Option Addr) (c:Nat) (w:Value),r = .tuple #[.agg #[e7 nd,.slice ga es'.length gc,.slice a (trussG nd es').length c],w]/\J=vk 3 a c (trussG nd es')::I):=by
 have a0:=edges_le h.ok
 have az:=edges_le h.ok'
 have a9:=one_len h
 have ab:=trussG_lenE h.ok
 have aa:=trussG_lenE h.ok'
 refine Ce4 Tryz.func287 C C ?_
 refine Af<|Ge1 (Bg (cs:=[_,_,_]) C C C) λb1=>Ge1 (Bg (cs:=[_,_]) C C C) λb2=>Ge1 (A3 ty41 C) λb3=>Ga C<|Ac<|Af<|Gf fld38_1 C<|Gl ty36 ?_
 refine Gr (Bh Au C)<|Gf fld41_0 C<|Gf fld38_1 C<|Gl ty36 ?_
 refine Gr (Bh Au C)<|Gr (Cc C C)<|Ga C<|Ac<|Ao (S6 10 8 5 4 2 3 C C C C C C)<|Af<|Ga C<|Ac<|Aq<|Af<|Gf fld38_1 C<|Gl ty36 ?_
 refine Gr (Bh Au C)<|Gm C<|Ac<|Aw<|Bu (σ:=Nat×(Option Addr)×Nat×(List Int)) (λs=>([(2,e7 u),(3,e7 v),(4,pt b1),(5,pt b2),(8,pt b3),(10,.bool<|decide<|((es.length:Nat):Int)<((es'.length:Nat):Int)),(11,.slice s.2.1 s.2.2.2.length s.2.2.1),(25,.slice ga es'.length gc),(26,e7<|((es'.length:Nat):Int)),(27,e7 ((s.1:Nat):Int))]:Env)) (λs=>vk 3 s.2.1 s.2.2.1 s.2.2.2::e8 b3 [e7 0,.slice none 0 0,.slice none 0 0] 41::e8 b2 [e7 nd,.slice ga es'.length gc] 38::e8 b1 [e7 nd,.slice ea es.length ec,.slice na (trussG nd es).length nc] 41::I) (λs=>(s.1<=es'.length)/\(NxI nd es' s.1 s.2.2.2)) (λs=>es'.length - s.1) (0,none,0,([]:List Int)) ⟨om,NxI.zero⟩ (Aa C<|Aa C<|Aa C<|Aa C<|Aa C<|Aa C<|Aa (Cx C<|by first|rfl|simp)<|Aa C<|Aa C<|Aa B2 Bi) (Cq (show Fit κ _ _ from Bl)<|Cb (α:=Int) _ _) ?_
 rintro ⟨k,ba,bc,bd⟩ hp
 dsimp only at hp ⊢
 obtain ⟨hk,hb⟩:=hp
 have a4:=hb.len
 refine Af<|Gr (A4 C C)<|Ac<|Aq<|A5 C (λav=>?_)<|λav=>?_
 ·refine Av (Ah<|Aq<|Aw<|Af<|Gr (Ax (α:=Pt) (xs:=es') Au ty105 C C (A8 Z) om<|by first|omega|(rcases M with ⟨q1,q2,q3⟩|q1<;>omega))<|Gr (Bx (α:=Pt) (xs:=es') ty105 C (A8 Z) om<|by first|omega|(rcases M with ⟨q1,q2,q3⟩|q1<;>omega))<|Ge1 (A3 ty105 C) λb4=>Ge0 (Cz ty105) ?_)
  refine Ac<|Ao (S11 13 2 3 4 5 8 10 11 25 26 27 C C C C C C C C C C C)<|Af<|Gf fld41_0 C<|Gl2 ty38 ?_
  refine Gf fld105_0 C<|Gl ef ?_
  refine Gf fld105_1 C<|Gl ef ?_
  refine G.e (Ak c_ C C<|FindG_ok (nd:=nd) (A8 hl) ((e_ es' k).u) ((e_ es' k).v) om) ?_
  rintro _ _ ⟨_,_,⟨y5,rfl,aj,rfl⟩,rfl,rfl⟩
  refine Ga C ?_
  have M:=find_old h.ok h.ok' om aj
  have ae:=λq:0<=y5/\y5<es.length=>truss_bd64 h.ok (j:=(y5).toNat) om
  have ah:=λq:0<=y5=>show (((y5).toNat:Nat):Int)=y5 from Int.toNat_of_nonneg q
  refine Ac<|Ao (S11 14 2 3 4 5 8 10 11 25 26 27 C C C C C C C C C C C)<|Aw<|Af<|Gm C<|Gr (A4 C C)<|Ga C<|Ac<|Ao (S12 46 14 2 3 4 5 8 10 11 25 26 27 C C C C C C C C C C C C)<|A5 C (λai=>?_)<|λai=>?_
  ·refine Ar (Gm C<|Gl2 ty38 ?_)
   refine Gm C<|Gm C<|Gc2 (Ak c_ C C<|CommonG_ok (nd:=nd) (A8 Z) u v<|Bm hT Ay) λbb a1=>?_
   have ak:=nx_new h om aj ai
   refine Gr (Bh Ab C)<|Ge1 (Cf (α:=Int) (cs:=[_]) (xs:=[(((commonG nd es' u v).length:Nat):Int)]) Ab ef C C dc dc C C C C) λa8=>?_
   refine Ge2 (Cg (α:=Int) (e:=3) (xs:=bd) (ys:=([(((commonG nd es' u v).length:Nat):Int)]:List Int)) Ab ef C C C mm Bf lcn dc C<|λ_ _=>am) λar ao=>?_
   exact Ga C<|Bj<|Aj<|Aj<|Ah<|Ao (S10 11 2 3 4 5 8 10 25 26 27 C C C C C C C C C C)<|Ar<|Gr (Cp C C<|by first|(unfold InR;omega)|rcases M with ⟨q1,q2,q3⟩|q1;(· have q4:=ae ⟨q1,q2⟩;rw [ah q1] at q4;unfold InR;omega);(· omega))<|Gm C<|Bj<|B3 ((k+1),(ar),(ao),(bd++([(((commonG nd es' u v).length:Nat):Int)]:List Int)))<|by dsimp only;exact ⟨om,(hb.next ak)⟩
  refine Af<|Gm C<|Ga C<|Ac<|Ao (S12 57 14 2 3 4 5 8 10 11 25 26 27 C C C C C C C C C C C C)<|A5 C (λax=>?_)<|λax=>?_
  ·refine Ar (Gm C<|Gf fld41_1 C<|Gl ty22 ?_)
   refine Gm C<|Gr (Ax (α:=Int) (xs:=trussG nd es) Ab ef C C (A8 hm) om<|by first|omega|(rcases M with ⟨q1,q2,q3⟩|q1<;>omega))<|Gr (Br (xs:=trussG nd es) ef C (A8 hm) om<|by first|omega|(rcases M with ⟨q1,q2,q3⟩|q1<;>omega)) ?_
   have ak:=nx_ins h om aj ai
   refine Gr (Cp C C<|by first|(unfold InR;omega)|rcases M with ⟨q1,q2,q3⟩|q1;(· have q4:=ae ⟨q1,q2⟩;rw [ah q1] at q4;unfold InR;omega);(· omega))<|Ge1 (Cf (α:=Int) (cs:=[_]) (xs:=[(e_ (trussG nd es) y5)+1]) Ab ef C C dc dc C C C C) λay=>?_
   refine Ge2 (Cg (α:=Int) (e:=3) (xs:=bd) (ys:=([(e_ (trussG nd es) y5)+1]:List Int)) Ab ef C C C mm Bf lcn dc C<|λ_ _=>am) λan ap=>?_
   exact Ga C<|Bj<|Aj<|Aj<|Ah<|Ao (S10 11 2 3 4 5 8 10 25 26 27 C C C C C C C C C C)<|Ar<|Gr (Cp C C<|by first|(unfold InR;omega)|rcases M with ⟨q1,q2,q3⟩|q1;(· have q4:=ae ⟨q1,q2⟩;rw [ah q1] at q4;unfold InR;omega);(· omega))<|Gm C<|Bj<|B3 ((k+1),(an),(ap),(bd++([(e_ (trussG nd es) y5)+1]:List Int)))<|by dsimp only;exact ⟨om,(hb.next ak)⟩
  omega
 refine Bs<|Al<|Al<|A2<|Ah<|Aq<|Bq mixed<|Ca (e8 b3 [e7 0,.slice none 0 0,.slice none 0 0] 41::e8 b2 [e7 nd,.slice ga es'.length gc] 38::e8 b1 [e7 nd,.slice ea es.length ec,.slice na (trussG nd es).length nc] 41::I) 6<|Dr 0 C (Be (vs:=[_,_]) ty38) ?_
 have aq:k=es'.length:=by omega
 rw [aq] at hb
 have ad:=hb.all
 refine Dr 1 C (Be (vs:=[_,_]) ty38) ?_
 refine Dr 2 C (Ai C)<|Dt (rs:=[3,5]) kr C C<|E4 ?_<|Ei ?_
 ·refine Se C (Ak c_ C C<|Cm (J:=vk 3 ba bc bd::e8 b3 [e7 0,.slice none 0 0,.slice none 0 0] 41::e8 b2 [e7 nd,.slice ga es'.length gc] 38::e8 b1 [e7 nd,.slice ea es.length ec,.slice na (trussG nd es).length nc] 41::I) Bl<|SinkT_ok (nd:=nd) (es:=es') (bs:=bd) (A8 Z) h.ok' ad.1 ad.2<|Bm hT Ay) ?_
  rintro _ _ ⟨_,_,⟨rfl,rfl⟩,rfl,rfl⟩
  refine ⟨Bl,?_⟩
  refine Dr 4 C (Bp (cells:=[_,_,_]) ty41 Da pl41 C C)<|Ds1 5<|Se1 C (A3 ty41 C) λau=>?_
  refine Cs kr ?_
  refine Ae 6 C (Dc ty41) ?_
  rintro _ _ ⟨rfl,rfl⟩
  refine Ct kr ?_
  refine Ah<|Ao (S3 15 4 8 C C C)<|Aq<|Bq mixed<|Ca (e8 au [e7 nd,.slice ga es'.length gc,.slice ba (trussG nd es').length bc] 41::vk 3 ba bc (trussG nd es')::e8 b3 [e7 0,.slice none 0 0,.slice none 0 0] 41::e8 b2 [e7 nd,.slice ga es'.length gc] 38::e8 b1 [e7 nd,.slice ea es.length ec,.slice na (trussG nd es).length nc] 41::I) 4<|Dr 0 C (Be (vs:=[_,_,_]) ty41) ?_
  refine Dt (rs:=[1,2]) kr C C<|E4 ?_<|Ei ?_
  ·refine Sr C (Be (vs:=[_,_,_]) ty41) Bc ?_
   refine Ds1 2<|Sr C (Be (vs:=[_,_,_]) ty41) Bc ?_
   refine Ds1 3<|Se C (Ak c_ C C<|MChanged_ok (nd:=nd) (nd':=nd) (es:=es) (es':=es') (num:=trussG nd es) (num':=trussG nd es') (A8 hl) (A8 hm) (A8 Z) Bf om om ab aa) ?_
   rintro _ _ ⟨_,_,⟨a5,rfl,rfl⟩,rfl,rfl⟩
   refine ⟨Bc,?_⟩
   refine Cs kr ?_
   refine Ae 4 C (Dc ty41) ?_
   rintro _ _ ⟨rfl,rfl⟩
   refine Dy (i:=5) kr C (Bn C) C C (Bd C) ?_
   refine Ct kr ?_
   exact Ah<|Az<|C0 C ty41 C C mm C (vk 3 ba bc (trussG nd es')::I) Bl ⟨ba,bc,_,rfl,rfl⟩
  refine Sr C (Be (vs:=[_,_,_]) ty41) Bc ?_
  refine Ds1 1<|Sr C (Be (vs:=[_,_,_]) ty41) Bc ?_
  refine Ds1 3<|Se C (Ak c_ C C<|MChanged_ok (nd:=nd) (nd':=nd) (es:=es) (es':=es') (num:=trussG nd es) (num':=trussG nd es') (A8 hl) (A8 hm) (A8 Z) Bf om om ab aa) ?_
  rintro _ _ ⟨_,_,⟨a3,rfl,rfl⟩,rfl,rfl⟩
  refine ⟨Bc,?_⟩
  refine Cs kr ?_
  refine Ae 4 C (Dc ty41) ?_
  rintro _ _ ⟨rfl,rfl⟩
  refine Dy (i:=5) kr C (Bn C) C C (Bd C) ?_
  refine Ct kr ?_
  exact Ah<|Az<|C0 C ty41 C C mm C (vk 3 ba bc (trussG nd es')::I) Bl ⟨ba,bc,_,rfl,rfl⟩
 refine Se1 C (A3 ty41 C) λaw=>?_
 refine Ds1 3<|Se C (Ak c_ C C<|Cm (J:=vk 3 ba bc bd::e8 aw [e7 0,.slice none 0 0,.slice none 0 0] 41::e8 b3 [e7 0,.slice none 0 0,.slice none 0 0] 41::e8 b2 [e7 nd,.slice ga es'.length gc] 38::e8 b1 [e7 nd,.slice ea es.length ec,.slice na (trussG nd es).length nc] 41::I) Bl<|SinkT_ok (nd:=nd) (es:=es') (bs:=bd) (A8 Z) h.ok' ad.1 ad.2<|Bm hT Ay) ?_
 rintro _ _ ⟨_,_,⟨rfl,rfl⟩,rfl,rfl⟩
 refine ⟨Bl,?_⟩
 refine Dr 4 C (Bp (cells:=[_,_,_]) ty41 Da pl41 C C)<|Cs kr ?_
 refine Ae 6 C (Dc ty41) ?_
 rintro _ _ ⟨rfl,rfl⟩
 refine Ct kr ?_
 refine Ah<|Ao (S3 15 4 8 C C C)<|Aq<|Bq mixed<|Ef 4<|Dr 0 C (Be (vs:=[_,_,_]) ty41) ?_
 refine Dt (rs:=[1,2]) kr C C<|E4 ?_<|Ei ?_
 ·refine Sr C (Be (vs:=[_,_,_]) ty41) Bc ?_
  refine Ds1 2<|Sr C (Be (vs:=[_,_,_]) ty41) Bc ?_
  refine Ds1 3<|Se C (Ak c_ C C<|MChanged_ok (nd:=nd) (nd':=nd) (es:=es) (es':=es') (num:=trussG nd es) (num':=trussG nd es') (A8 hl) (A8 hm) (A8 Z) Bf om om ab aa) ?_
  rintro _ _ ⟨_,_,⟨a6,rfl,rfl⟩,rfl,rfl⟩
  refine ⟨Bc,?_⟩
  refine Cs kr ?_
  refine Ae 4 C (Dc ty41) ?_
  rintro _ _ ⟨rfl,rfl⟩
  refine Dy (i:=5) kr C (Bn C) C C (Bd C) ?_
  refine Ct kr ?_
  exact Ah<|Az<|C0 C ty41 C C mm C (vk 3 ba bc (trussG nd es')::I) Bl ⟨ba,bc,_,rfl,rfl⟩
 refine Sr C (Be (vs:=[_,_,_]) ty41) Bc ?_
 refine Ds1 1<|Sr C (Be (vs:=[_,_,_]) ty41) Bc ?_
 refine Ds1 3<|Se C (Ak c_ C C<|MChanged_ok (nd:=nd) (nd':=nd) (es:=es) (es':=es') (num:=trussG nd es) (num':=trussG nd es') (A8 hl) (A8 hm) (A8 Z) Bf om om ab aa) ?_
 rintro _ _ ⟨_,_,⟨a7,rfl,rfl⟩,rfl,rfl⟩
 refine ⟨Bc,?_⟩
 refine Cs kr ?_
 refine Ae 4 C (Dc ty41) ?_
 rintro _ _ ⟨rfl,rfl⟩
 refine Dy (i:=5) kr C (Bn C) C C (Bd C) ?_
 refine Ct kr ?_
 exact Ah<|Az<|C0 C ty41 C C mm C (vk 3 ba bc (trussG nd es')::I) Bl ⟨ba,bc,_,rfl,rfl⟩
theorem NextD_ok{κ:Ctx}{I:List Item}{nd u v:Int}{es es':List Pt}(hl:Sl κ I (.slice ea es.length ec) es)(hm:Sl κ I (.slice na (trussG nd es).length nc) (trussG nd es))(Z:Sl κ I (.slice ga es'.length gc) es')(h:OneE nd es' es u v)(hT:TabRd κ I 0 tzCells):eu Tryz.prog κ 287 [.agg #[e7 nd,.slice ea es.length ec,.slice na (trussG nd es).length nc],.agg #[e7 nd,.slice ga es'.length gc],e7 u,e7 v] I (λr J=>∃(a:Option Addr) (c:Nat) (w:Value),r = .tuple #[.agg #[e7 nd,.slice ga es'.length gc,.slice a (trussG nd es').length c],w]/\J=vk 3 a c (trussG nd es')::I):=by
 have a1:=edges_le h.ok'
 have av:=edges_le h.ok
 have a4:=one_len h
 have ab:=trussG_lenE h.ok'
 have M:=trussG_lenE h.ok
 refine Ce4 Tryz.func287 C C ?_
 refine Af<|Ge1 (Bg (cs:=[_,_,_]) C C C) λb1=>Ge1 (Bg (cs:=[_,_]) C C C) λb2=>Ge1 (A3 ty41 C) λb3=>Ga C<|Ac<|Af<|Gf fld38_1 C<|Gl ty36 ?_
 refine Gr (Bh Au C)<|Gf fld41_0 C<|Gf fld38_1 C<|Gl ty36 ?_
 refine Gr (Bh Au C)<|Gr (Cc C C)<|Ga C<|Ac<|Ao (S6 10 8 5 4 2 3 C C C C C C)<|Af<|Ga C<|Ac<|Aq<|Af<|Gf fld38_1 C<|Gl ty36 ?_
 refine Gr (Bh Au C)<|Gm C<|Ac<|Aw<|Bu (σ:=Nat×(Option Addr)×Nat×(List Int)) (λs=>([(2,e7 u),(3,e7 v),(4,pt b1),(5,pt b2),(8,pt b3),(10,.bool<|decide<|((es.length:Nat):Int)<((es'.length:Nat):Int)),(11,.slice s.2.1 s.2.2.2.length s.2.2.1),(25,.slice ga es'.length gc),(26,e7<|((es'.length:Nat):Int)),(27,e7 ((s.1:Nat):Int))]:Env)) (λs=>vk 3 s.2.1 s.2.2.1 s.2.2.2::e8 b3 [e7 0,.slice none 0 0,.slice none 0 0] 41::e8 b2 [e7 nd,.slice ga es'.length gc] 38::e8 b1 [e7 nd,.slice ea es.length ec,.slice na (trussG nd es).length nc] 41::I) (λs=>(s.1<=es'.length)/\(NxI nd es' s.1 s.2.2.2)) (λs=>es'.length - s.1) (0,none,0,([]:List Int)) ⟨om,NxI.zero⟩ (Aa C<|Aa C<|Aa C<|Aa C<|Aa C<|Aa C<|Aa (Cx C<|by first|rfl|simp)<|Aa C<|Aa C<|Aa B2 Bi) (Cq (show Fit κ _ _ from Bl)<|Cb (α:=Int) _ _) ?_
 rintro ⟨k,ba,bc,bd⟩ hp
 dsimp only at hp ⊢
 obtain ⟨hk,hb⟩:=hp
 have ay:=hb.len
 refine Af<|Gr (A4 C C)<|Ac<|Aq<|A5 C (λao=>?_)<|λao=>?_
 ·refine Av (Ah<|Aq<|Aw<|Af<|Gr (Ax (α:=Pt) (xs:=es') Au ty105 C C (A8 Z) om<|by first|omega|(rcases aa with ⟨q1,q2,q3⟩|q1<;>omega))<|Gr (Bx (α:=Pt) (xs:=es') ty105 C (A8 Z) om<|by first|omega|(rcases aa with ⟨q1,q2,q3⟩|q1<;>omega))<|Ge1 (A3 ty105 C) λb4=>Ge0 (Cz ty105) ?_)
  refine Ac<|Ao (S11 13 2 3 4 5 8 10 11 25 26 27 C C C C C C C C C C C)<|Af<|Gf fld41_0 C<|Gl2 ty38 ?_
  refine Gf fld105_0 C<|Gl ef ?_
  refine Gf fld105_1 C<|Gl ef ?_
  refine G.e (Ak c_ C C<|FindG_ok (nd:=nd) (A8 hl) ((e_ es' k).u) ((e_ es' k).v) om) ?_
  rintro _ _ ⟨_,_,⟨y5,rfl,ae,rfl⟩,rfl,rfl⟩
  refine Ga C ?_
  have aa:=find_old h.ok' h.ok om ae
  have ai:=λq:0<=y5/\y5<es.length=>truss_bd64 h.ok' (j:=(y5).toNat) om
  have aj:=λq:0<=y5=>show (((y5).toNat:Nat):Int)=y5 from Int.toNat_of_nonneg q
  refine Ac<|Ao (S11 14 2 3 4 5 8 10 11 25 26 27 C C C C C C C C C C C)<|Aw<|Af<|Gm C<|Gr (A4 C C)<|Ga C<|Ac<|Ao (S12 46 14 2 3 4 5 8 10 11 25 26 27 C C C C C C C C C C C C)<|A5 C (λan=>?_)<|λan=>?_
  ·exact absurd (nx_del h om ae).1 om
  refine Af<|Gm C<|Ga C<|Ac<|Ao (S12 57 14 2 3 4 5 8 10 11 25 26 27 C C C C C C C C C C C C)<|A5 C (λaq=>?_)<|λaq=>?_
  ·omega
  refine Ar<|Gm C<|Gf fld41_1 C<|Gl ty22 ?_
  refine Gm C<|Gr (Ax (α:=Int) (xs:=trussG nd es) Ab ef C C (A8 hm) om<|by first|omega|(rcases aa with ⟨q1,q2,q3⟩|q1<;>omega))<|Gr (Br (xs:=trussG nd es) ef C (A8 hm) om<|by first|omega|(rcases aa with ⟨q1,q2,q3⟩|q1<;>omega)) ?_
  have ap:=(nx_del h om ae).2
  refine Ge1 (Cf (α:=Int) (cs:=[_]) (xs:=[e_ (trussG nd es) y5]) Ab ef C C dc dc C C C C) λaz=>?_
  refine Ge2 (Cg (α:=Int) (e:=3) (xs:=bd) (ys:=([e_ (trussG nd es) y5]:List Int)) Ab ef C C C mm Bf lcn dc C<|λ_ _=>am) λak ah=>?_
  exact Ga C<|Bj<|Aj<|Aj<|Ah<|Ao (S10 11 2 3 4 5 8 10 25 26 27 C C C C C C C C C C)<|Ar<|Gr (Cp C C<|by first|(unfold InR;omega)|rcases aa with ⟨q1,q2,q3⟩|q1;(· have q4:=ai ⟨q1,q2⟩;rw [aj q1] at q4;unfold InR;omega);(· omega))<|Gm C<|Bj<|B3 ((k+1),(ak),(ah),(bd++([e_ (trussG nd es) y5]:List Int)))<|by dsimp only;exact ⟨om,(hb.next ap)⟩
 refine Bs<|Al<|Al<|A2<|Ah<|Aq<|Bq mixed<|Ca (e8 b3 [e7 0,.slice none 0 0,.slice none 0 0] 41::e8 b2 [e7 nd,.slice ga es'.length gc] 38::e8 b1 [e7 nd,.slice ea es.length ec,.slice na (trussG nd es).length nc] 41::I) 6<|Dr 0 C (Be (vs:=[_,_]) ty38) ?_
 have ar:k=es'.length:=by omega
 rw [ar] at hb
 have ad:=hb.all
 refine Dr 1 C (Be (vs:=[_,_]) ty38) ?_
 refine Dr 2 C (Ai C)<|Dt (rs:=[3,5]) kr C C<|E4 ?_<|Ei ?_
 ·refine Se C (Ak c_ C C<|Cm (J:=vk 3 ba bc bd::e8 b3 [e7 0,.slice none 0 0,.slice none 0 0] 41::e8 b2 [e7 nd,.slice ga es'.length gc] 38::e8 b1 [e7 nd,.slice ea es.length ec,.slice na (trussG nd es).length nc] 41::I) Bl<|SinkT_ok (nd:=nd) (es:=es') (bs:=bd) (A8 Z) h.ok ad.1 ad.2<|Bm hT Ay) ?_
  rintro _ _ ⟨_,_,⟨rfl,rfl⟩,rfl,rfl⟩
  refine ⟨Bl,?_⟩
  refine Dr 4 C (Bp (cells:=[_,_,_]) ty41 Da pl41 C C)<|Ds1 5<|Se1 C (A3 ty41 C) λb9=>?_
  refine Cs kr ?_
  refine Ae 6 C (Dc ty41) ?_
  rintro _ _ ⟨rfl,rfl⟩
  refine Ct kr ?_
  refine Ah<|Ao (S3 15 4 8 C C C)<|Aq<|Bq mixed<|Ca (e8 b9 [e7 nd,.slice ga es'.length gc,.slice ba (trussG nd es').length bc] 41::vk 3 ba bc (trussG nd es')::e8 b3 [e7 0,.slice none 0 0,.slice none 0 0] 41::e8 b2 [e7 nd,.slice ga es'.length gc] 38::e8 b1 [e7 nd,.slice ea es.length ec,.slice na (trussG nd es).length nc] 41::I) 4<|Dr 0 C (Be (vs:=[_,_,_]) ty41) ?_
  refine Dt (rs:=[1,2]) kr C C<|E4 ?_<|Ei ?_
  ·refine Sr C (Be (vs:=[_,_,_]) ty41) Bc ?_
   refine Ds1 2<|Sr C (Be (vs:=[_,_,_]) ty41) Bc ?_
   refine Ds1 3<|Se C (Ak c_ C C<|MChanged_ok (nd:=nd) (nd':=nd) (es:=es) (es':=es') (num:=trussG nd es) (num':=trussG nd es') (A8 hl) (A8 hm) (A8 Z) Bf om om ab M) ?_
   rintro _ _ ⟨_,_,⟨a3,rfl,rfl⟩,rfl,rfl⟩
   refine ⟨Bc,?_⟩
   refine Cs kr ?_
   refine Ae 4 C (Dc ty41) ?_
   rintro _ _ ⟨rfl,rfl⟩
   refine Dy (i:=5) kr C (Bn C) C C (Bd C) ?_
   refine Ct kr ?_
   exact Ah<|Az<|C0 C ty41 C C mm C (vk 3 ba bc (trussG nd es')::I) Bl ⟨ba,bc,_,rfl,rfl⟩
  refine Sr C (Be (vs:=[_,_,_]) ty41) Bc ?_
  refine Ds1 1<|Sr C (Be (vs:=[_,_,_]) ty41) Bc ?_
  refine Ds1 3<|Se C (Ak c_ C C<|MChanged_ok (nd:=nd) (nd':=nd) (es:=es) (es':=es') (num:=trussG nd es) (num':=trussG nd es') (A8 hl) (A8 hm) (A8 Z) Bf om om ab M) ?_
  rintro _ _ ⟨_,_,⟨a0,rfl,rfl⟩,rfl,rfl⟩
  refine ⟨Bc,?_⟩
  refine Cs kr ?_
  refine Ae 4 C (Dc ty41) ?_
  rintro _ _ ⟨rfl,rfl⟩
  refine Dy (i:=5) kr C (Bn C) C C (Bd C) ?_
  refine Ct kr ?_
  exact Ah<|Az<|C0 C ty41 C C mm C (vk 3 ba bc (trussG nd es')::I) Bl ⟨ba,bc,_,rfl,rfl⟩
 refine Se1 C (A3 ty41 C) λau=>?_
 refine Ds1 3<|Se C (Ak c_ C C<|Cm (J:=vk 3 ba bc bd::e8 au [e7 0,.slice none 0 0,.slice none 0 0] 41::e8 b3 [e7 0,.slice none 0 0,.slice none 0 0] 41::e8 b2 [e7 nd,.slice ga es'.length gc] 38::e8 b1 [e7 nd,.slice ea es.length ec,.slice na (trussG nd es).length nc] 41::I) Bl<|SinkT_ok (nd:=nd) (es:=es') (bs:=bd) (A8 Z) h.ok ad.1 ad.2<|Bm hT Ay) ?_
 rintro _ _ ⟨_,_,⟨rfl,rfl⟩,rfl,rfl⟩
 refine ⟨Bl,?_⟩
 refine Dr 4 C (Bp (cells:=[_,_,_]) ty41 Da pl41 C C)<|Cs kr ?_
 refine Ae 6 C (Dc ty41) ?_
 rintro _ _ ⟨rfl,rfl⟩
 refine Ct kr ?_
 refine Ah<|Ao (S3 15 4 8 C C C)<|Aq<|Bq mixed<|Ef 4<|Dr 0 C (Be (vs:=[_,_,_]) ty41) ?_
 refine Dt (rs:=[1,2]) kr C C<|E4 ?_<|Ei ?_
 ·refine Sr C (Be (vs:=[_,_,_]) ty41) Bc ?_
  refine Ds1 2<|Sr C (Be (vs:=[_,_,_]) ty41) Bc ?_
  refine Ds1 3<|Se C (Ak c_ C C<|MChanged_ok (nd:=nd) (nd':=nd) (es:=es) (es':=es') (num:=trussG nd es) (num':=trussG nd es') (A8 hl) (A8 hm) (A8 Z) Bf om om ab M) ?_
  rintro _ _ ⟨_,_,⟨ax,rfl,rfl⟩,rfl,rfl⟩
  refine ⟨Bc,?_⟩
  refine Cs kr ?_
  refine Ae 4 C (Dc ty41) ?_
  rintro _ _ ⟨rfl,rfl⟩
  refine Dy (i:=5) kr C (Bn C) C C (Bd C) ?_
  refine Ct kr ?_
  exact Ah<|Az<|C0 C ty41 C C mm C (vk 3 ba bc (trussG nd es')::I) Bl ⟨ba,bc,_,rfl,rfl⟩
 refine Sr C (Be (vs:=[_,_,_]) ty41) Bc ?_
 refine Ds1 1<|Sr C (Be (vs:=[_,_,_]) ty41) Bc ?_
 refine Ds1 3<|Se C (Ak c_ C C<|MChanged_ok (nd:=nd) (nd':=nd) (es:=es) (es':=es') (num:=trussG nd es) (num':=trussG nd es') (A8 hl) (A8 hm) (A8 Z) Bf om om ab M) ?_
 rintro _ _ ⟨_,_,⟨aw,rfl,rfl⟩,rfl,rfl⟩
 refine ⟨Bc,?_⟩
 refine Cs kr ?_
 refine Ae 4 C (Dc ty41) ?_
 rintro _ _ ⟨rfl,rfl⟩
 refine Dy (i:=5) kr C (Bn C) C C (Bd C) ?_
 refine Ct kr ?_
 exact Ah<|Az<|C0 C ty41 C C mm C (vk 3 ba bc (trussG nd es')::I) Bl ⟨ba,bc,_,rfl,rfl⟩
variable {κ:Ctx}{I:List Item}
theorem MInsert_ok{nd:Int}{es:List Pt}(hl:Sl κ I (.slice ea es.length ec) es)(hm:Sl κ I (.slice na (trussG nd es).length nc) (trussG nd es))(hG:GrOk nd es){u v:Int}(he:endsP nd u v)(hn:edgeP u v∉es)(hT:TabRd κ I 0 tzCells):eu Tryz.prog κ 283 [.agg #[e7 nd,.slice ea es.length ec,.slice na (trussG nd es).length nc],e7 u,e7 v] I (λr J=>∃(ga:Option Addr) (gc:Nat) (a:Option Addr) (c:Nat) (w:Value),r = .tuple #[.agg #[e7 nd,.slice ga (insB Pt.lt es (edgeP u v)).length gc,.slice a (trussG nd (insB Pt.lt es (edgeP u v))).length c],w,e7 0]/\J=vk 3 a c (trussG nd (insB Pt.lt es (edgeP u v)))::vk 105 ga gc (insB Pt.lt es (edgeP u v))::I):=by
 refine Ce3 Tryz.func283 C C ?_
 refine Af<|Ge1 (Bg (cs:=[_,_,_]) C C C) λb1=>Ge1 (A3 ty41 C) λb2=>Ga C<|Ga C<|Ac<|Aq<|Af<|Gl3 ty41 ?_
 refine Gm C<|Gm C<|Gc0 (Ak c_ C C<|MAsked_ok (nd:=nd) (u:=u) (v:=v) (A8 hl) (A8 hm) hG he<|Bm hT Ay) ?_
 refine Ga C<|Ac<|Af<|Gm C<|Gr (Bo C C)<|Ac<|Ao (S6 19 9 6 3 1 2 C C C C C C)<|A5 C (λad=>?_)<|λad=>?_
 ·refine Af (Gr (Bp (cells:=[_,_,_]) ty41 Da pl41 C C)<|Gm C<|Ge0 (Dc ty41) ?_)
  refine Ga C<|Ga C<|Ac<|Az<|Ap ?_
  exact absurd rfl asm
 refine Av<|Ah<|Af<|Gf fld41_0 C<|Gl2 ty38 ?_
 refine Gm C<|Gm C<|G.e (Ak c_ C C<|AddG_yes (nd:=nd) (u:=u) (v:=v) (A8 hl) (add_zero hG he hn)<|by have:=edges_le hG;omega) ?_
 rintro _ _ ⟨_,_,⟨aa,ab,rfl,rfl⟩,rfl,rfl⟩
 refine Gm C<|Gr (Am C C)<|Gr (Am C C)<|Ge1 (A3 ty38 C) λb5=>Ge0 (Cz ty38) ?_
 refine Ga C<|Ac<|Ao (S6 11 10 6 3 1 2 C C C C C C)<|Aq<|Af<|Gm C<|Gr (Bo C C)<|Ac<|A5 C (λae=>?_)<|λae=>?_
 ·refine Af (Gr (Bp (cells:=[_,_,_]) ty41 Da pl41 C C)<|Gm C<|Ge0 (Dc ty41) ?_)
  refine Ga C<|Ga C<|Ac<|Az<|Ap ?_
  exact absurd rfl asm
 refine Av<|Ah<|Af<|Gl3 ty41 ?_
 refine Gl2 ty38 ?_
 refine Gm C<|Gm C<|G.e (Ak c_ C C<|NextI_ok (nd:=nd) (u:=u) (v:=v) (A8 hl) (A8 hm) Bf (OneE.add hG he hn)<|Bm hT Ay) ?_
 rintro _ _ ⟨_,_,⟨M,Z,w8,rfl,rfl⟩,rfl,rfl⟩
 refine Gm C<|Gr (Am C C)<|Gr (Am C C)<|Ge1 (A3 ty41 C) λb9=>Ge0 (Dc ty41) ?_
 refine Ga C<|Ac<|Ao (S3 13 12 6 C C C)<|Af<|Gl3 ty41 ?_
 refine Gm C<|Ge0 (Dc ty41) ?_
 exact Ga C<|Ga C<|Ac<|Az<|C6 C ty41 C C C mm C (vk 3 M Z (trussG nd<|insB Pt.lt es<|edgeP u v)::vk 105 aa ab (insB Pt.lt es<|edgeP u v)::I) Bl ⟨aa,ab,M,Z,_,rfl,rfl⟩
theorem MDelete_ok{nd:Int}{es:List Pt}(hl:Sl κ I (.slice ea es.length ec) es)(hm:Sl κ I (.slice na (trussG nd es).length nc) (trussG nd es))(hG:GrOk nd es){u v:Int}(he:endsP nd u v)(hn:edgeP u v∈es)(hT:TabRd κ I 0 tzCells):eu Tryz.prog κ 284 [.agg #[e7 nd,.slice ea es.length ec,.slice na (trussG nd es).length nc],e7 u,e7 v] I (λr J=>∃(ga:Option Addr) (gc:Nat) (a:Option Addr) (c:Nat) (w:Value),r = .tuple #[.agg #[e7 nd,.slice ga (without es (edgeP u v)).length gc,.slice a (trussG nd (without es (edgeP u v))).length c],w,e7 0]/\J=vk 3 a c (trussG nd (without es (edgeP u v)))::vk 105 ga gc (without es (edgeP u v))::I):=by
 refine Ce3 Tryz.func284 C C ?_
 refine Af<|Ge1 (Bg (cs:=[_,_,_]) C C C) λb1=>Ge1 (A3 ty41 C) λb2=>Ga C<|Ga C<|Ac<|Aq<|Af<|Gl3 ty41 ?_
 refine Gm C<|Gm C<|Gc0 (Ak c_ C C<|MAsked_ok (nd:=nd) (u:=u) (v:=v) (A8 hl) (A8 hm) hG he<|Bm hT Ay) ?_
 refine Ga C<|Ac<|Af<|Gm C<|Gr (Bo C C)<|Ac<|Ao (S6 19 9 6 3 1 2 C C C C C C)<|A5 C (λad=>?_)<|λad=>?_
 ·refine Af (Gr (Bp (cells:=[_,_,_]) ty41 Da pl41 C C)<|Gm C<|Ge0 (Dc ty41) ?_)
  refine Ga C<|Ga C<|Ac<|Az<|Ap ?_
  exact absurd rfl asm
 refine Av<|Ah<|Af<|Gf fld41_0 C<|Gl2 ty38 ?_
 refine Gm C<|Gm C<|Gc2 (Ak c_ C C<|RemG_yes (nd:=nd) (u:=u) (v:=v) (A8 hl) (rem_zero hG he hn)<|by have:=edges_le hG;omega) λaa ab=>?_
 refine Gm C<|Gr (Am C C)<|Gr (Am C C)<|Ge1 (A3 ty38 C) λb5=>Ge0 (Cz ty38) ?_
 refine Ga C<|Ac<|Ao (S6 11 10 6 3 1 2 C C C C C C)<|Aq<|Af<|Gm C<|Gr (Bo C C)<|Ac<|A5 C (λae=>?_)<|λae=>?_
 ·refine Af (Gr (Bp (cells:=[_,_,_]) ty41 Da pl41 C C)<|Gm C<|Ge0 (Dc ty41) ?_)
  refine Ga C<|Ga C<|Ac<|Az<|Ap ?_
  exact absurd rfl asm
 refine Av<|Ah<|Af<|Gl3 ty41 ?_
 refine Gl2 ty38 ?_
 refine Gm C<|Gm C<|G.e (Ak c_ C C<|NextD_ok (nd:=nd) (u:=u) (v:=v) (A8 hl) (A8 hm) Bf (OneE.rem hG he hn)<|Bm hT Ay) ?_
 rintro _ _ ⟨_,_,⟨M,Z,w8,rfl,rfl⟩,rfl,rfl⟩
 refine Gm C<|Gr (Am C C)<|Gr (Am C C)<|Ge1 (A3 ty41 C) λb9=>Ge0 (Dc ty41) ?_
 refine Ga C<|Ac<|Ao (S3 13 12 6 C C C)<|Af<|Gl3 ty41 ?_
 refine Gm C<|Ge0 (Dc ty41) ?_
 exact Ga C<|Ga C<|Ac<|Az<|C6 C ty41 C C C mm C (vk 3 M Z (trussG nd<|without es<|edgeP u v)::vk 105 aa ab (without es<|edgeP u v)::I) Bl ⟨aa,ab,M,Z,_,rfl,rfl⟩
theorem nbG_asc(nd:Int)(es:List Pt)(v:Int):(nbG nd es v).Pairwise (λM Z:Int=>M<Z):=by
 unfold nbG
 split
 ·exact List.Pairwise.nil
 exact ofL_asc _
theorem inter_common{nd:Int}{es:List Pt}{u v:Int}(h:u≠v):interF (nbG nd es u) (nbG nd es v)=commonG nd es u v:=by
 unfold commonG
 rw [if_neg h]
 refine intLin.uniq ((nbG_asc nd es u).sublist List.filter_sublist) ?_ λx=>?_
 ·unfold meetL;exact (ofL_asc _).sublist List.filter_sublist
 rw [mem_meetL];unfold interF;rw [List.mem_filter,decide_eq_true_eq]
theorem Shared_any{κ:Ctx}{I:List Item}{a0 b0:Option Addr}{n0 m0 c0 d0:Nat}{xs ys:List Int}(hn:n0=xs.length)(Z:m0=ys.length)(hl:Sl κ I (.slice a0 n0 c0) xs)(hm:Sl κ I (.slice b0 m0 d0) ys)(hx:xs.Pairwise (λx0 M:Int=>x0<M))(hy:ys.Pairwise (λx0 M:Int=>x0<M))(hb:xs.length<=100000):eu Tryz.prog κ 133 [.slice a0 n0 c0,.slice b0 m0 d0] I λr J=>∃a c,r = .slice a (interF xs ys).length c/\J=vk 3 a c (interF xs ys)::I:=by
 subst hn Z
 exact Shared_ok hl hm hx hy hb
section
variable {nd:Int}{es:List Pt}
def trF(nd:Int)(es:List Pt)(xs:List Int)(p:Pt):List Int:=(commonG nd es p.u p.v).foldl (incL 1) xs
def trC(nd:Int)(es:List Pt)(k:Nat):List Int:=(es.take k).foldl (trF nd es) (List.replicate nd.toNat 0)
theorem trC_succ(h:k<es.length):trC nd es (k+1)=(commonG nd es (e_ es k).u (e_ es k).v).foldl (incL 1) (trC nd es k):=by
 unfold trC;rw [Cj es k h,List.foldl_append];rfl
theorem trF_len(xs:List Int)(p:Pt):(trF nd es xs p).length=xs.length:=incs_len _ _
theorem trFs_at(Z:GrOk nd es)(M:0<=x):∀(l:List Pt) (xs:List Int),(xs.length:Int)=nd->(l.foldl (trF nd es) xs).length=xs.length/\e_ (l.foldl (trF nd es) xs) x=e_ xs x+(l.map λp=>ind (decide (x∈commonG nd es p.u p.v))).sum
 |[],xs,_=>⟨rfl,by simp⟩
 |p::l,xs,hl=>by
  obtain ⟨h1,h2⟩:=trFs_at Z M l (trF nd es xs p) (by rw [trF_len];exact hl)
  rw [List.foldl_cons,h1,h2,trF_len]
  refine ⟨rfl,?_⟩
  have h3:e_ (trF nd es xs p) x=e_ xs x+ind (decide<|x∈commonG nd es p.u p.v):=by
   unfold trF
   rw [incs_at _ _ (λw hw=>by have:=common_rng Z hw;omega) x M,sum_ind_nodup<|common_nodup nd es p.u p.v,Int.one_mul,E7]
  rw [h3,List.map_cons,List.sum_cons];omega
theorem trC_all(Z:GrOk nd es):trC nd es es.length=triL nd es:=by
 have hr:=Z.rng
 have M:((List.replicate nd.toNat (0:Int)).length:Int)=nd:=by rw [List.length_replicate];omega
 have hL:(trC nd es es.length).length=nd.toNat:=by
  unfold trC;rw [(trFs_at Z (Int.le_refl 0) _ _ M).1,List.length_replicate]
 refine E9 (by rw [hL,triL_len]) λi hi=>?_
 rw [hL] at hi
 rw [triL_at hi]
 unfold trC triW
 rw [List.take_length,(trFs_at Z om _ _ M).2,Cn _ i<|by rw [List.length_replicate];exact hi,List.getElem_replicate,Int.zero_add]
end
theorem CountsL_ok{κ:Ctx}{I:List Item}{nd:Int}{va:Value}{es:List Pt}(hl:Sl κ I va es)(hG:GrOk nd es):eu Tryz.prog κ 87 [.agg #[e7 nd,va]] I (λr J=>∃a c,r = .tuple #[e7 (triS nd es / 3),.slice a (triL nd es).length c]/\J=vc 3 (.slice a (triL nd es).length c) (triL nd es)::I):=by
 have a9:=hG.rng
 have be:=edges_le hG
 have ba:=triS_bd hG
 refine Ce1 Tryz.func87 C C ?_
 refine Af<|Ge1 (Bg (cs:=[_,_]) C C C) λb1=>Ga C<|Ga C<|Ac<|Af<|Gl2 ty38 ?_
 refine G.e (Ak c_ C C<|Lists_ok (nd:=nd) (A8 hl) hG) ?_
 rintro _ _ ⟨_,_,⟨ad,ah,rs,ai,rfl,ae,rfl⟩,rfl,rfl⟩
 refine Eh (J:=vc 22 (.slice ad rs.length ah) (rs)::e8 b1 [e7 nd,va] 38::(ownR 3 ai++I)) (C2<|List.Perm.cons _<|Dl (A:=ownR 3 ai) (L:=[e8 b1 [e7 nd,va] 38]) (T:=I)) ?_
 have a8:=ae.len
 refine Ga C<|Ac<|Aq<|Bq mixed<|Ef 5<|Dr 0 C (Ad fld38_0 C)<|Dr 1 C (Bb ef) ?_
 refine Dr 3 C (Bd C)<|Ds1 2<|Se2 C (Du (α:=Int) (n:=nd.toNat) Ab ef C C C om om dc C) λaa ab=>?_
 refine Dr 4 C (Bd C)<|Dz<|Ah<|Aq<|Af<|Gf fld38_1 C<|Gl ty36 ?_
 refine Gr (B9 (α:=Pt) (xs:=es) Au C<|A8 hl)<|Gm C<|Ac<|Ao (S6 19 18 17 6 5 4 C C C C C C)<|Aw<|Bu (σ:=Nat×(List Int)×Int) (λs=>([(4,.slice ad rs.length ah),(5,e7<|s.2.2),(6,.slice aa (List.replicate nd.toNat (default:Int)).length ab),(17,va),(18,e7 ((es.length:Nat):Int)),(19,e7 ((s.1:Nat):Int))]:Env)) (λs=>vc 3 (.slice aa (List.replicate nd.toNat (default:Int)).length ab) (s.2.1)::vc 22 (.slice ad rs.length ah) (rs)::e8 b1 [e7 nd,va] 38::(ownR 3 ai++I)) (λs=>(s.1<=es.length)/\(s.2.2=triK nd es s.1)/\(s.2.1.length=nd.toNat)/\(s.2.1.sum=s.2.2)/\(∀x∈s.2.1,0<=x)/\(s.2.1=trC nd es s.1)) (λs=>es.length - s.1) (0,List.replicate nd.toNat (default:Int),0) ⟨om,rfl,(by rw [List.length_replicate]),(sumL_rep _),(λx hx=>by rw [List.eq_of_mem_replicate hx];exact Int.le_refl 0),rfl⟩ (Aa C<|Aa B2<|Aa C<|Aa C<|Aa C<|Aa B2 Bi) Bl ?_
 rintro ⟨k,out,q⟩ hp
 dsimp only at hp ⊢
 obtain ⟨hk,hq,ay,a1,az,aq⟩:=hp
 have aw:=λh:k<=es.length=>triK_bd nd es k h
 have a7:=λh:k<es.length=>hG.at h
 refine Af<|Gr (A4 C C)<|Ac<|Aq<|A5 C (λav=>?_)<|λav=>?_
 ·refine Av (Ah<|Aq<|Aw<|Af<|Gr (Ax (α:=Pt) (xs:=es) Au ty105 C C (A8 hl) om oo)<|Gr (Bx (α:=Pt) (xs:=es) ty105 C (A8 hl) om oo)<|Ge1 (A3 ty105 C) λb6=>Ge0 (Cz ty105) ?_)
  refine Ac<|Aq<|Bq mixed<|Ef 13<|Dr 0 C (Ai C)<|Dr 1 C (Ad fld105_0 C)<|Dr 2 C (Bb ef) ?_
  refine Dr 3 C (Ax (α:=(RowG Int)) (xs:=rs) Cl ty22 C C Bf om oo)<|Dr 4 C (B7 (α:=(RowG Int)) (xs:=rs) (u:= .slice (e_ rs<|(e_ es k).u).a (e_ rs<|(e_ es k).u).xs.length (e_ rs<|(e_ es k).u).c) ty22 C Bf om oo C)<|Dr 5 C (Ai C)<|Dr 6 C (Ad fld105_1 C)<|Dr 7 C (Bb ef) ?_
  refine Dr 8 C (Ax (α:=(RowG Int)) (xs:=rs) Cl ty22 C C Bf om oo)<|Dr 9 C (B7 (α:=(RowG Int)) (xs:=rs) (u:= .slice (e_ rs<|(e_ es k).v).a (e_ rs<|(e_ es k).v).xs.length (e_ rs<|(e_ es k).v).c) ty22 C Bf om oo C)<|Dr 12 C (Ai C)<|Ds1 10<|Se C (Ak c_ C C<|Shared_any (ae.row _ om om).2 (ae.row _ om om).2 (Bz (ae.held (I:=I) (i:=((e_ es k).u)) om om) Ay) (Bz (ae.held (I:=I) (i:=((e_ es k).v)) om om) Ay) (nbG_asc _ _ _) (nbG_asc _ _ _) (by have:=nbG_len nd es (e_ es k).u;omega)) ?_
  rintro _ _ ⟨_,_,⟨au,ap,rfl,rfl⟩,rfl,rfl⟩
  refine ⟨Bc,?_⟩
  have ar:interF (nbG nd es<|(e_ es k).u) (nbG nd es<|(e_ es k).v)=commonG nd es (e_ es k).u (e_ es k).v:=inter_common (by have:=a7 om;omega)
  rw [ar]
  refine Dr 11 C (Bh Ab C)<|Dz<|Ah<|Ao (S9 34 33 35 4 5 6 17 18 19 C C C C C C C C C)<|Aw<|Bu (σ:=Nat×(List Int)×Int) (λs=>([(4,.slice ad rs.length ah),(5,e7<|s.2.2),(6,.slice aa (List.replicate nd.toNat (default:Int)).length ab),(17,va),(18,e7 ((es.length:Nat):Int)),(19,e7<|(k:Int)),(33,.slice au (commonG nd es (e_ es k).u (e_ es k).v).length ap),(34,e7<|(((commonG nd es (e_ es k).u (e_ es k).v).length:Nat):Int)),(35,e7 ((s.1:Nat):Int))]:Env)) (λs=>vc 3 (.slice aa (List.replicate nd.toNat (default:Int)).length ab) (s.2.1)::vc 3 (.slice au (commonG nd es (e_ es k).u (e_ es k).v).length ap) (commonG nd es (e_ es k).u (e_ es k).v)::e8 b6 [e7 ((e_ es k).u),e7<|(e_ es k).v] 105::vc 22 (.slice ad rs.length ah) (rs)::e8 b1 [e7 nd,va] 38::(ownR 3 ai++I)) (λs=>(s.1<=(commonG nd es (e_ es k).u (e_ es k).v).length)/\(s.2.2=triK nd es k+(s.1:Int))/\(s.2.1.length=nd.toNat)/\(s.2.1.sum=s.2.2)/\(∀x∈s.2.1,0<=x)/\(s.2.1=((commonG nd es (e_ es k).u (e_ es k).v).take s.1).foldl (incL 1) out)) (λs=>(commonG nd es (e_ es k).u (e_ es k).v).length - s.1) (0,out,q) ⟨om,(by rw [hq];simp),ay,a1,az,rfl⟩ (Aa C<|Aa B2<|Aa C<|Aa C<|Aa C<|Aa C<|Aa C<|Aa C<|Aa B2 Bi) Bl ?_
  rintro ⟨k2,Z,q2⟩ hp
  dsimp only at hp ⊢
  obtain ⟨bc,a0,aj,an,M,ao⟩:=hp
  have a3:k2<(commonG nd es (e_ es k).u (e_ es k).v).length->0<=e_ (commonG nd es (e_ es k).u (e_ es k).v) (k2:Int)/\e_ (commonG nd es (e_ es k).u (e_ es k).v) (k2:Int)<nd:=λh=>common_rng hG (B1 om om)
  have bb:=commonG_len nd es (e_ es k).u (e_ es k).v
  have ax:k2<(commonG nd es (e_ es k).u (e_ es k).v).length->0<=e_ Z (e_ (commonG nd es (e_ es k).u (e_ es k).v) (k2:Int))/\e_ Z (e_ (commonG nd es (e_ es k).u (e_ es k).v) (k2:Int))<=1000000:=λh=>by have h1:=a3 h;have h2:=B1 (xs:=Z) (i:=e_ (commonG nd es (e_ es k).u (e_ es k).v) (k2:Int)) om om;have h3:=mem_le_sum M h2;have h4:=M _ h2;have h5:=aw om;omega
  refine Af<|Gr (A4 C C)<|Ac<|Aq<|A5 C (λa6=>?_)<|λa6=>?_
  ·refine Av (Ah<|Aq<|Aw<|Af<|Gr (Ax (α:=Int) (xs:=commonG nd es (e_ es k).u (e_ es k).v) Ab ef C C Bf om oo)<|Gr (Br (xs:=commonG nd es (e_ es k).u (e_ es k).v) ef C Bf om oo)<|Ga C<|Ac<|Af<|Gm C<|Gm C<|Gr (Ax (α:=Int) (xs:=Z) Ab ef C C Bf om oo)<|Gr (Br (xs:=Z) ef C Bf om oo)<|Gr (Rad C C)<|Gr (Ax (α:=Int) (xs:=Z) Ab ef C C Bf om oo)<|Ge0 (Cu (α:=Int) (xs:=Z) (e:=3) (new:=(e_ Z<|e_ (commonG nd es (e_ es k).u (e_ es k).v) (k2:Int))+1) ef C C C om oo am) ?_)
   exact Ac<|Ao (S9 4 5 6 17 18 19 33 34 35 C C C C C C C C C)<|Ar<|Gm C<|Gr (Rad C C)<|Ga C<|Bj<|Aj<|Ah<|Ar<|Gr (Rad C C)<|Gm C<|Bj<|B3 ((k2+1),(List.set Z (e_ (commonG nd es (e_ es k).u (e_ es k).v) (k2:Int)).toNat ((e_ Z<|e_ (commonG nd es (e_ es k).u (e_ es k).v) (k2:Int))+1)),(q2+1))<|by dsimp only;exact ⟨om,om,(by rw [List.length_set];exact aj),(by rw [sumL_set om om,an];omega),(λx hx=>by rcases List.mem_or_eq_of_mem_set hx with h|h;(· exact M x h);(· rw [h];have:=ax om;omega)),(inc_next om ao)⟩
  exact Bs<|Al<|Al<|A2<|Aj<|Ah<|Ar<|Gr (Rad C C)<|Gm C<|Bj<|B3 ((k+1),(Z),(q2))<|by dsimp only;exact ⟨om,(by rw [triK_succ om,a0,show k2=(commonG nd es (e_ es k).u (e_ es k).v).length by omega]),aj,an,M,(by rw [trC_succ om,←aq,ao,List.take_of_length_le om])⟩
 refine Bs<|Al<|Al<|A2<|Ah<|Af<|Gm C<|Gr (Runs.quo C C om om<|by unfold InR;omega)<|Gm C<|Ga C<|Ga C<|Ac<|Az ?_
 have a4:out=triL nd es:=by rw [aq,show k=es.length by omega,trC_all hG]
 subst a4
 have ak:(List.replicate nd.toNat (default:Int)).length=(triL nd es).length:=by rw [List.length_replicate,triL_len]
 have a5:q=triS nd es:=by rw [hq,show k=es.length by omega,triK_all]
 exact C7 C C C (vc 3 (.slice aa (triL nd es).length ab) (triL nd es)::I) (by rw [←ak];exact FitW) ⟨aa,ab,by rw [←ak,a5],rfl⟩
end Go.Sl
