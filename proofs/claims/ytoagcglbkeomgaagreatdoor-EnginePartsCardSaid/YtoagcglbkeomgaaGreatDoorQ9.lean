/- A part of the proofs of statements of this seat: contracts of functions, and the plain laws that they lean on. No conditions. -/
import Derived.Test.YtoagcglbkeomgaaGreatDoorQ8
set_option linter.unusedVariables false
set_option linter.unusedSimpArgs false
set_option linter.unusedSectionVars false
open Go.Proofs.Tryz (prog)
open List (replicate)
namespace Go.Sl
open Go.Proofs
set_option maxRecDepth 4000
variable{nd:Int}{v va:Value}{es xs ys:List Pt}{a a0 ad:Option Addr}{c c0 i n:Nat}
variable {κ:Ctx}{I:List Item}
theorem CheckGen_ok(Z:Sl κ I v es):eu prog κ 86 [.agg #[e7 nd,v]] I (λr J=>r=e7 (checkG nd es)/\I=J):=by
 refine B9 Z.le λai=>?_
 refine Ce1 Tryz.func86 C C ?_
 refine Af<|Ge1 (Bc (cs:=[_,_]) C C C) λb1=>Ga C<|Ad<|Ap<|Af<|Gf fld38_0 C<|Gl ef ?_
 refine Gr (Bb C C)<|Gm C<|Br (d:=8) C (λg8=>?_)<|λg8=>?_
 ·exact eb<|eb<|eb<|Gr (A3 C C)<|Ad<|Dp C<|Af<|Ga C<|Ad<|Ay<|Aq<|A1 C C I Av ⟨by rw [show checkG nd es=1 from (by unfold checkG;rw [if_pos om])],rfl⟩
 refine e9 (Ac fld38_0 C)<|e9 (A7 ef) ?_
 refine e9 (Ck C C)<|Gr (Bd C C)<|Ad<|A8 C (λc12=>?_)<|λc12=>?_
 ·exact Af<|Ga C<|Ad<|Ay<|Aq<|A1 C C I Av ⟨by rw [show checkG nd es=1 from (by unfold checkG;rw [if_pos om])],rfl⟩
 refine Aw<|Ah<|Ap<|Af<|Gf fld38_1 C<|Gl ty36 ?_
 refine Gr (B5 (α:=Pt) (xs:=es) Ax C<|A6 Z)<|Gm C<|Ad<|Am (S4 16 15 14 1 C C C C)<|A0<|B1 (σ:=Nat) (λs=>([(1,.pointer<|some ⟨b1,0,none⟩),(14,v),(15,e7 ((es.length:Nat):Int)),(16,e7 ((s:Nat):Int))]:Env)) (λs=>e8 b1 [e7 nd,v] 38::I) (λs=>(s<=es.length)/\(checkG nd es=scanL (badE nd) Pt.lt (prevAt es s) (es.drop s))) (λs=>es.length - s) 0 (show ((0:Nat)<=es.length)/\(checkG nd es=scanL (badE nd) Pt.lt (prevAt es (0:Nat)) (es.drop (0:Nat))) from ⟨om,(by unfold checkG;rw [if_neg om];rfl)⟩) (Aa C<|Aa C<|Aa C<|Aa Cd Bl) (show Fit κ _ (e8 b1 [e7 nd,v] 38::I) from Bf) ?_
 rintro k hp
 obtain ⟨hk,hs⟩:=hp
 refine Af<|Gr (Bb C C)<|Ad<|Ap<|A8 C (λab=>?_)<|λab=>?_
 ·refine Aw (Ah<|Ap<|A0<|Af<|Gm C<|Gr (Az (α:=Pt) (xs:=es) Ax ty105 C C (A6 Z) om om)<|Gr (B2 (α:=Pt) (xs:=es) ty105 C (A6 Z) om om)<|Ge1 (A2 ty105 C) λb2=>Ga C<|Ge0 (Da ty105) ?_)
  refine Ad<|A0<|Af<|Gf fld105_0 C<|Gl ef ?_
  refine Gr (Bb C C)<|Gm C<|Br (d:=25) C (λad=>?_)<|λad=>?_
  ·exact eb<|eb<|eb<|eb<|eb<|Gr (A3 C C)<|Gm C<|eb<|eb<|eb<|eb<|eb<|Gr (A3 C C)<|Ga C<|Ad<|Am (S7 21 3 4 1 14 15 16 C C C C C C C)<|Dp C<|Af<|Ga C<|Ad<|Ay<|Be<|Be<|Aq<|Aq<|Be<|Aq<|A1 C C I Av ⟨by rw [show checkG nd es=6 from (hs.trans<|(Eh om<|by unfold badE;rw [if_pos om];decide).trans (by unfold badE;rw [if_pos om]))],rfl⟩
  refine e9 (Ac fld105_0 C)<|e9 (A7 ef) ?_
  refine e9 (Ac fld105_1 C)<|e9 (A7 ef) ?_
  refine e9 (C3 C C)<|Gr (Bd C C)<|Gm C<|Br (d:=32) C (λM=>?_)<|λM=>?_
  ·exact eb<|eb<|eb<|eb<|eb<|Gr (A3 C C)<|Ga C<|Ad<|Am (S7 21 3 4 1 14 15 16 C C C C C C C)<|Dp C<|Af<|Ga C<|Ad<|Ay<|Be<|Be<|Aq<|Aq<|Be<|Aq<|A1 C C I Av ⟨by rw [show checkG nd es=6 from (hs.trans<|(Eh om<|by unfold badE;rw [if_pos om];decide).trans (by unfold badE;rw [if_pos om]))],rfl⟩
  refine e9 (Ac fld105_1 C)<|e9 (A7 ef) ?_
  refine e9 (Ac fld38_0 C)<|e9 (A7 ef) ?_
  refine e9 (C3 C C)<|Gr (Bd C C)<|Ga C<|Ad<|Am (S7 21 3 4 1 14 15 16 C C C C C C C)<|A8 C (λae=>?_)<|λae=>?_
  ·exact Af<|Ga C<|Ad<|Ay<|Be<|Be<|Aq<|Aq<|Be<|Aq<|A1 C C I Av ⟨by rw [show checkG nd es=6 from (hs.trans<|(Eh om<|by unfold badE;rw [if_pos om];decide).trans (by unfold badE;rw [if_pos om]))],rfl⟩
  refine Ap<|Bq mixed<|Cc (e8 b2 [e7 ((e_ es k).u),e7<|(e_ es k).v] 105::e8 b1 [e7 nd,v] 38::I) 14<|Dr 0 C (Ai C)<|Dr 1 C (Ck C C)<|Dr 2 C (Ai C)<|Ey (d:=42) C (λah=>?_)<|λah=>?_
  ·refine Dro 3 C (Ac fld38_1 C) (Dro 4 C (A7 ty36) ?_)
   refine Dro 5 C (Ai C)<|Dro 6 C (Rsu C C)<|Dro 7 C (Az (α:=Pt) (xs:=es) Ax ty105 C C (A6 Z) om om)<|Dro 8 C (B2 (α:=Pt) (xs:=es) ty105 C (A6 Z) om om)<|Dro 9 C (A5 (vs:=[_,_]) ty105) ?_
   refine Ds1 10<|Se C (Aj c_ C C<|Order_ok (e_ es<|(k:Int) - 1)<|e_ es k) ?_
   rintro _ _ ⟨_,_,⟨rfl,rfl⟩,rfl,rfl⟩
   refine ⟨Av,?_⟩
   refine Dro 11 C (C3 C C)<|Dr 12 C (A3 C C)<|Dr 13 C (Ba C)<|Dz<|Ah<|Am (S5 39 1 14 15 16 C C C C C)<|A8 C (λaa=>?_)<|λaa=>?_
   ·exact Af<|Ga C<|Ad<|Ay<|Be<|Be<|Aq<|Aq<|Be<|Aq<|A1 C C I Av ⟨by rw [show checkG nd es=5 from (hs.trans<|scanL_order om (badE_zero.2 om) om (λh=>by have:=(Pt.cmp_lt _ _).2 h;omega))],rfl⟩
   exact Aw<|Al<|Al<|Ah<|Au<|Gr (Rad C C)<|Gm C<|Bo<|Cf ((k+1)) ⟨om,(hs.trans<|scanL_step om (badE_zero.2 om)<|λh0=>by first|omega|exact (Pt.cmp_lt _ _).1 om)⟩
  exact Dpo 3 C<|Dpo 4 C<|Dpo 5 C<|Dpo 6 C<|Dpo 7 C<|Dpo 8 C<|Dpo 9 C<|Dpo 10 C<|Dpo 11 C<|Dr 12 C (Bd C C)<|Dr 13 C (Ba C)<|Dz<|Ah<|Am (S5 39 1 14 15 16 C C C C C)<|Dw C<|Aw<|Al<|Al<|Ah<|Au<|Gr (Rad C C)<|Gm C<|Bo<|Cf ((k+1)) ⟨om,(hs.trans<|scanL_step om (badE_zero.2 om)<|λh0=>by first|omega|exact (Pt.cmp_lt _ _).1 om)⟩
 exact Bx<|Ao<|Ao<|A9<|Ah<|Af<|Ga C<|Ad<|Ay<|A1 C C I Av ⟨by rw [show checkG nd es=0 from (hs.trans<|scanL_end om)],rfl⟩
theorem Ends_ok(nd u v:Int):eu prog κ 267 [e7 nd,e7 u,e7 v] I (λr J=>r = .bool (decide (endsP nd u v))/\I=J):=by
 have aa:((if v<u then v else u)<=u/\(if v<u then v else u)<=v/\((if v<u then v else u)=u\/(if v<u then v else u)=v))/\(u<=(if u<v then v else u)/\v<=(if u<v then v else u)/\((if u<v then v else u)=u\/(if u<v then v else u)=v)):=by refine ⟨⟨?_,?_,?_⟩,⟨?_,?_,?_⟩⟩<;>split<;>omega
 refine Ce3 Tryz.func267 C C ?_
 refine Af<|Ga C<|Ad<|Af<|Gm C<|Gm C<|Gr (Bn C C)<|Gm C<|Br (d:=10) C (λZ=>?_)<|λZ=>?_
 ·refine e9 (Ai C) (e9 (Ai C)<|e9 (Er C C)<|e9 (C3 C C)<|Gr (A3 C C)<|Gm C<|Br (d:=16) C (λM=>?_)<|λM=>?_)
  ·exact e9 (Ai C)<|e9 (Ai C)<|e9 (Do C C)<|e9 (Ai C)<|e9 (Bb C C)<|Gr (A3 C C)<|Ga C<|Ad<|Am (S1 6 C)<|Ay<|A1 C C I Av ⟨(by first|exact congrArg Value.bool (decide_eq_decide.2<|by unfold endsP;omega)|exact congrArg Value.bool (decide_eq_true<|by unfold endsP;omega).symm|exact congrArg Value.bool (decide_eq_false<|by unfold endsP;omega).symm),rfl⟩
  exact eb<|eb<|eb<|eb<|eb<|Gr (Bd C C)<|Ga C<|Ad<|Am (S1 6 C)<|Ay<|A1 C C I Av ⟨(by first|exact congrArg Value.bool (decide_eq_decide.2<|by unfold endsP;omega)|exact congrArg Value.bool (decide_eq_true<|by unfold endsP;omega).symm|exact congrArg Value.bool (decide_eq_false<|by unfold endsP;omega).symm),rfl⟩
 exact eb<|eb<|eb<|eb<|Gr (Bd C C)<|Gm C<|eb<|eb<|eb<|eb<|eb<|Gr (Bd C C)<|Ga C<|Ad<|Am (S1 6 C)<|Ay<|A1 C C I Av ⟨(by first|exact congrArg Value.bool (decide_eq_decide.2<|by unfold endsP;omega)|exact congrArg Value.bool (decide_eq_true<|by unfold endsP;omega).symm|exact congrArg Value.bool (decide_eq_false<|by unfold endsP;omega).symm),rfl⟩
theorem EdgeG_ok(u v:Int):eu prog κ 188 [e7 u,e7 v] I (λr J=>r = .agg #[e7 (edgeP u v).u,e7 (edgeP u v).v]/\I=J):=by
 refine Ce2 Tryz.func188 C C ?_
 refine Af<|Ge1 (A2 ty105 C) λb1=>Ad<|Af<|Gm C<|Gm C<|Gr (Er C C)<|Gm C<|Gm C<|Gr (Do C C)<|Gr (Bp (cells:=[_,_]) ty105 Dn pl105 C C)<|Ge0 (Da ty105) ?_
 exact Ad<|Ay<|E5 C ty105 C mm C I Av ⟨rfl,rfl⟩
theorem Change_ok(M:Sl κ I va es)(u v:Int):eu prog κ 268 [.agg #[e7 nd,va],e7 u,e7 v] I (λr J=>r=e7 (changeG nd es u v)/\I=J):=by
 refine Ce3 Tryz.func268 C C ?_
 refine Af<|Ge1 (Bc (cs:=[_,_]) C C C) λb1=>Ga C<|Ad<|Ap<|Af<|Gl2 ty38 ?_
 refine Gc0 (Aj c_ C C<|CheckGen_ok<|A6 M) ?_
 refine Ga C<|Ad<|Af<|Gm C<|Gr (Bn C C)<|Ad<|A8 C (λc11=>?_)<|λc11=>?_
 ·exact Af<|Gm C<|Ga C<|Ad<|Ay<|Aq<|A1 C C I Av ⟨by unfold changeG;rw [if_pos om],rfl⟩
 refine Aw<|Ah<|Ap<|Af<|Gf fld38_0 C<|Gl ef ?_
 refine Gm C<|Gm C<|Gc0 (Aj c_ C C<|Ends_ok nd u v) ?_
 refine Gr (Ea C)<|Ad<|Am (S1 18 C)<|A8 C (λZ=>?_)<|λZ=>?_
 ·exact Af<|Ga C<|Ad<|Ay<|Aq<|A1 C C I Av ⟨by unfold changeG;rw [if_neg om,if_neg asm],rfl⟩
 exact Aw<|Ah<|Af<|Ga C<|Ad<|Ay<|A1 C C I Av ⟨by unfold changeG;rw [if_neg om,if_pos<|Classical.not_not.1 asm],rfl⟩
theorem Order_cmps:Cmps prog κ I 131 [] Pt.cmp:=⟨c_,λx y J Z=>Order_ok x y⟩
theorem Place_ok(Z:Sl κ I va es)(u v:Int)(hb:es.length<=1000000000):eu prog κ 172 [.agg #[e7 nd,va],e7 u,e7 v] I (λr J=>∃i q,r = .tuple #[e7 ((i:Nat):Int),.bool (decide (i<es.length/\e_ es ((i:Nat):Int)=(edgeP u v)))]/\BFound Pt.cmp es (edgeP u v) i q/\I=J):=by
 refine B9 Z.le λab=>?_
 refine Ce3 Tryz.func172 C C ?_
 refine Af<|Ge1 (Bc (cs:=[_,_]) C C C) λb1=>Ga C<|Ga C<|Ad<|Af<|Gm C<|Gm C<|Gc0 (Aj c_ C C<|EdgeG_ok u v) ?_
 refine Ge1 (A2 ty105 C) λb2=>Ge0 (Da ty105) ?_
 refine Ad<|Af<|Gf fld38_1 C<|Gl ty36 ?_
 refine Gl2 ty105 ?_
 refine G.e (Aj c_ C C<|BSearchE (A6 Z) (edgeP u v) Order_cmps om) ?_
 rintro _ _ ⟨_,_,⟨M,q4,rfl,hi3,rfl⟩,rfl,rfl⟩
 refine Gm C<|Gr (Ak C C)<|Gr (Ak C C)<|Ga C<|Ga C<|Ad<|Am (S3 9 8 3 C C C)<|Ap<|Bq mixed<|Cc (e8 b2 [e7 ((edgeP u v).u),e7<|(edgeP u v).v] 105::e8 b1 [e7 nd,va] 38::I) 17<|Dr 0 C (Ai C)<|Dr 1 C (Ai C)<|Dr 2 C (Ac fld38_1 C)<|Dr 3 C (A7 ty36) ?_
 refine Dr 4 C (B5 (α:=Pt) (xs:=es) Ax C<|A6 Z)<|Dr 5 C (Bb C C)<|Dr 6 C (Ai C)<|Ey (d:=27) C (λaa=>?_)<|λaa=>?_
 ·refine Dro 7 C (Ac fld38_1 C) (Dro 8 C (A7 ty36) ?_)
  refine Dro 9 C (Ai C)<|Dro 10 C (Az (α:=Pt) (xs:=es) Ax ty105 C C (A6 Z) om om)<|Dro 11 C (B2 (α:=Pt) (xs:=es) ty105 C (A6 Z) om om)<|Dro 12 C (A5 (vs:=[_,_]) ty105) ?_
  exact Dro 13 C (Runs.eqlT (α:=Pt) (a:=(e_ es M)) (b:=(edgeP u v)) eqt105 C C)<|Dr 14 C (A3 C C)<|Dr 15 C (Ba C)<|Dr 16 C (Ba C)<|Dz<|Ah<|Am (S2 7 6 C C)<|Ay<|De C C C I Av ⟨M,q4,congrArg (λb_=>Value.tuple #[e7 (M:Int),.bool b_])<|decide_eq_decide.2 ⟨λh=>⟨by omega,h⟩,λh=>h.2⟩,hi3,rfl⟩
 exact Dpo 7 C<|Dpo 8 C<|Dpo 9 C<|Dpo 10 C<|Dpo 11 C<|Dpo 12 C<|Dpo 13 C<|Dr 14 C (Bd C C)<|Dr 15 C (Ba C)<|Dr 16 C (Ba C)<|Dz<|Ah<|Am (S2 7 6 C C)<|Ay<|De C C C I Av ⟨M,q4,congrArg (λb_=>Value.tuple #[e7 (M:Int),.bool b_]) (decide_eq_false<|λh=>by omega).symm,hi3,rfl⟩
theorem InsertE_two{va:Option Addr}{m Z:Nat}{K:List Item}(hf:Fit κ I (vc 105 (.slice a n c) xs::vc 105 (.slice va m Z) ys::K))(hn:n=xs.length)(hm:m=ys.length)(hi:i<=xs.length)(hy:0<ys.length)(M:xs.length+ys.length<=1000000000):eu prog κ 269 [.slice a n c,e7 (i:Int),.slice va m Z] I (λr J=>∃a' c',r = .slice a' (List.take i xs++ys++List.drop i xs).length c'/\J=vc 105 (.slice a' (List.take i xs++ys++List.drop i xs).length c') (List.take i xs++ys++List.drop i xs)::K):=by
 subst hn hm
 exact Cn hf<|InsertE_ok hi hy M
theorem AddG_ok{nd:Int}{a0:Option Addr}{c0:Nat}{es:List Pt}(hl:Sl κ I (.slice a0 es.length c0) es)(u v:Int)(hb:es.length<=10000000):eu prog κ 261 [.agg #[e7 nd,.slice a0 es.length c0],e7 u,e7 v] I (λr J=>(addG nd es u v≠0/\r = .tuple #[.agg #[e7 0,.slice none 0 0],e7 (addG nd es u v)]/\I=J)\/(∃a c,addG nd es u v=0/\r = .tuple #[.agg #[e7 nd,.slice a (insB Pt.lt es (edgeP u v)).length c],e7 0]/\J=vc 105 (.slice a (insB Pt.lt es (edgeP u v)).length c) (insB Pt.lt es (edgeP u v))::I)):=by
 refine Ce3 Tryz.func261 C C ?_
 refine Af (Ge1 (Bc (cs:=[_,_]) C C C) λb1=>Ge1 (A2 ty38 C) λb2=>Ga C (Ad (Ap (Af (Gl2 ty38 ?_)))))
 refine Gm C (Gm C (Gc0 (Aj c_ C C (Change_ok (A6 hl) u v)) ?_))
 refine Ga C (Ad (Af (Gm C (Gr (Bn C C) (Ad (A8 C (λc16=>?_) (λc16=>?_)))))))
 ·refine Af (Gr (Bp (cells:=[_,_]) ty38 C2 pl38 C C) (Gm C (Ge0 (Da ty38) ?_)))
  refine Ga C (Ad (Am (S2 7 6 C C) (Ay (Aq ?_))))
  have hz:addG nd es u v=changeG nd es u v:=by unfold addG;rw [if_pos om]
  exact C0 C ty38 C C mm C I Av (.inl ⟨by rw [hz];omega,by rw [hz],rfl⟩)
 refine Aw (Ah (Af (Gl2 ty38 ?_)))
 refine Gm C (Gm C (G.e (Aj c_ C C (Place_ok (A6 hl) u v om)) ?_))
 rintro _ _ ⟨_,_,⟨i3,q4,rfl,hi3,rfl⟩,rfl,rfl⟩
 have hG:=(changeG_zero.1 (by omega:changeG nd es u v=0)).1
 have hile:=hi3.le
 refine Gm C (Gr (Ak C C) (Gr (Ak C C) (Ga C (Ga C (Ad (Am (S6 10 9 6 3 1 2 C C C C C C) (Ap (Af (Gm C (Ad (A8 C (λc26=>?_) (λc26=>?_))))))))))))
 ·refine Af (Gr (Bp (cells:=[_,_]) ty38 C2 pl38 C C) (Ge0 (Da ty38) ?_))
  refine Ga C (Ad (Ay (Aq ?_)))
  have hz:addG nd es u v=15:=by unfold addG;rw [if_neg om,if_pos ((hi3.mem hG.asc).1 c26)]
  exact C0 C ty38 C C mm C I Av (.inl ⟨by rw [hz];decide,by rw [hz],rfl⟩)
 refine Aw (Ah (Ap (Bq mixed (Cc (e8 b2 [e7 0,.slice none 0 0] 38::e8 b1 [e7 nd,.slice a0 es.length c0] 38::I) 12 (Dr 0 C (Ac fld38_0 C) (Dr 1 C (A7 ef) ?_))))))
 refine Dr 2 C (Ac fld38_1 C) (Dr 3 C (A7 ty36) ?_)
 refine Dr 5 C (Ai C) (Dr 6 C (Ai C) (Dr 7 C (Ai C) (Ds1 4 (Sc2 C (Aj c_ C C (CloneE (xs:=es) (A6 hl) om)) λad5 cp6=>?_))))
 refine Ds1 8 (Sc0 C (Aj c_ C C (EdgeG_ok u v)) ?_)
 refine Ds1 9 (Se1 C (Co (α:=Pt) (cs:=[_,_]) (xs:=[⟨(edgeP u v).u,(edgeP u v).v⟩]) Ax ty105 C C dc dc C C C C) λad7=>?_)
 refine Ds1 10 (Sc2 C (Aj c_ C C (InsertE_two (i:=i3) (xs:=es) (ys:=([⟨(edgeP u v).u,(edgeP u v).v⟩]:List Pt)) (show Fit κ _ (vc 105 (.slice ad5 es.length cp6) (es)::vc 105 (.slice ad7 1 1) (([⟨(edgeP u v).u,(edgeP u v).v⟩]:List Pt))::e8 b2 [e7 0,.slice none 0 0] 38::e8 b1 [e7 nd,.slice a0 es.length c0] 38::I) from Bm) C C om (by simp only [List.length_cons];omega) lcn)) λad8 cp9=>?_)
 show D prog κ _ _ _ _ _ _ _ ([(38,.slice ad8 (List.take i3 es++([⟨(edgeP u v).u,(edgeP u v).v⟩]:List Pt)++List.drop i3 es).length cp9),(37,.slice ad7 1 1),(36,.agg #[e7 ((edgeP u v).u),e7 ((edgeP u v).v)]),(32,.slice ad5 es.length cp6),(35,e7 v),(34,e7 u),(33,e7 ((i3:Int))),(31,.slice a0 es.length c0),(30,.pointer (some ⟨b1,1,none⟩)),(29,e7 nd),(28,.pointer (some ⟨b1,0,none⟩)),(26,.bool (decide (i3<es.length/\e_ es i3=edgeP u v))),(10,.bool (decide (i3<es.length/\e_ es i3=edgeP u v))),(9,e7 ((i3:Int))),(6,.pointer (some ⟨b2,0,none⟩)),(3,.pointer (some ⟨b1,0,none⟩)),(1,e7 u),(2,e7 v)]:Env) (vc 105 (.slice ad8 (List.take i3 es++([⟨(edgeP u v).u,(edgeP u v).v⟩]:List Pt)++List.drop i3 es).length cp9) (List.take i3 es++([⟨(edgeP u v).u,(edgeP u v).v⟩]:List Pt)++List.drop i3 es)::e8 b2 [e7 0,.slice none 0 0] 38::e8 b1 [e7 nd,.slice a0 es.length c0] 38::I)
 refine Dr 11 C (Bp (cells:=[_,_]) ty38 C2 pl38 C C) (Ct kr ?_)
 refine Ae 12 C (Da ty38) ?_
 rintro _ _ ⟨rfl,rfl⟩
 refine Du (i:=13) kr C (Bk C) C C (Ba C) ?_
 refine Cu kr ?_
 refine Ah (Am (S2 7 6 C C) (Ay ?_))
 have hz:addG nd es u v=0:=by unfold addG;rw [if_neg om,if_neg (λhm=>c26 ((hi3.mem hG.asc).2 hm))]
 have hE:List.take i3 es++([⟨(edgeP u v).u,(edgeP u v).v⟩]:List Pt)++List.drop i3 es=(insB Pt.lt es (edgeP u v)):=hi3.ins hG.asc (λhm=>c26 ((hi3.mem hG.asc).2 hm))
 exact C0 C ty38 C C mm C (vc 105 (.slice ad8 (insB Pt.lt es (edgeP u v)).length cp9) (insB Pt.lt es (edgeP u v))::I) (by rw [←hE];exact Bf) (.inr ⟨ad8,cp9,hz,by rw [←hE];rfl,rfl⟩)
variable {κ:Ctx}{I:List Item}
theorem SameEdges_ok{vb:Value}(Z:Sl κ I va xs)(hy:Sl κ I vb ys):eu prog κ 64 [va,vb] I (λr J=>r = .bool (decide (xs=ys))/\I=J):=by
 refine B9 Z.le λab=>?_
 refine B9 hy.le λad=>?_
 refine Ce2 Tryz.func64 C C ?_
 refine Af<|Ga C<|Ad<|Ap<|Af<|Gm C<|Gr (B5 (α:=Pt) (xs:=xs) Ax C<|A6 Z)<|Gm C<|Gr (B5 (α:=Pt) (xs:=ys) Ax C<|A6 hy)<|Gr (Bn C C)<|Ad<|A8 C (λc10=>?_)<|λc10=>?_
 ·exact Af<|Ga C<|Ad<|Ay<|Aq<|A1 C C I Av ⟨by rw [decide_eq_false (show ¬xs=ys from λe=>by first|(have e2:=congrArg List.length e;omega)|(have e3:=congrArg (λl=>e_ l k) e;exact absurd e3 asm))],rfl⟩
 refine Aw<|Ah<|Ap<|Af<|Gm C<|Gr (B5 (α:=Pt) (xs:=xs) Ax C<|A6 Z)<|Gm C<|Ad<|A0<|B1 (σ:=Nat) (λs=>([(0,va),(1,vb),(12,e7 ((xs.length:Nat):Int)),(13,e7 ((s:Nat):Int))]:Env)) (λs=>I) (λs=>(s<=xs.length)/\(∀j,j<s->e_ xs j=e_ ys j)) (λs=>xs.length - s) 0 (show ((0:Nat)<=xs.length)/\(∀j,j<(0:Nat)->e_ xs j=e_ ys j) from ⟨om,all_zero⟩) (Aa C<|Aa C<|Aa C<|Aa Cd Bl) (show Fit κ _ I from Bf) ?_
 rintro k hp
 obtain ⟨hk,hn⟩:=hp
 refine Af<|Gr (Bb C C)<|Ad<|Ap<|A8 C (λaa=>?_)<|λaa=>?_
 ·refine Aw (Ah<|Ap<|A0<|Af<|Gm C<|Ga C<|Ad<|Ap<|Bq mixed<|Cc I 9<|Dr 0 C (Ai C)<|Dr 1 C (Ai C)<|Dr 2 C (Az (α:=Pt) (xs:=xs) Ax ty105 C C (A6 Z) om om)<|Dr 3 C (B2 (α:=Pt) (xs:=xs) ty105 C (A6 Z) om om)<|Dr 4 C (Ai C)<|Dr 5 C (Ai C)<|Dr 6 C (Az (α:=Pt) (xs:=ys) Ax ty105 C C (A6 hy) om om)<|Dr 7 C (B2 (α:=Pt) (xs:=ys) ty105 C (A6 hy) om om)<|Dr 8 C (Runs.neqT (α:=Pt) (a:=(e_ xs k)) (b:=(e_ ys k)) eqt105 C C)<|Dz<|Ah<|Am (S5 24 0 1 12 13 C C C C C)<|A8 C (λM=>?_)<|λM=>?_)
  ·exact Af<|Ga C<|Ad<|Ay<|Be<|Aq<|Aq<|Be<|Aq<|A1 C C I Av ⟨by rw [decide_eq_false (show ¬xs=ys from λe=>by first|(have e2:=congrArg List.length e;omega)|(have e3:=congrArg (λl=>e_ l k) e;exact absurd e3 asm))],rfl⟩
  exact Aw<|Al<|Ah<|Au<|Gr (Rad C C)<|Gm C<|Bo<|Cf ((k+1)) ⟨om,(all_succ hn<|Classical.not_not.1 M)⟩
 exact Bx<|Ao<|Ao<|A9<|Ah<|Af<|Ga C<|Ad<|Ay<|A1 C C I Av ⟨by rw [decide_eq_true (show xs=ys from ext_at om (λj hj=>hn j om))],rfl⟩
theorem Same03_ok{n m:Int}{M:Value}(hx:Sl κ I va xs)(hy:Sl κ I M ys):eu prog κ 24 [.agg #[e7 n,va],.agg #[e7 m,M]] I (λr J=>r = .bool (decide (n=m/\xs=ys))/\I=J):=by
 refine Ce2 Tryz.func24 C C ?_
 refine Af<|Ge1 (Bc (cs:=[_,_]) C C C) λb1=>Ge1 (Bc (cs:=[_,_]) C C C) λb2=>Ga C<|Ad<|Af<|Gf fld38_0 C<|Gl ef ?_
 refine Gf fld38_0 C<|Gl ef ?_
 refine Gr (Bs C C)<|Gm C<|Br (d:=10) C (λZ=>?_)<|λZ=>?_
 ·refine e9 (Ac fld38_1 C) (e9 (A7 ty36) ?_)
  refine e9 (Ac fld38_1 C)<|e9 (A7 ty36) ?_
  refine Dm (Ch C C C) (Aj c_ C C<|SameEdges_ok (A6 hx)<|A6 hy) ?_
  rintro _ _ ⟨_,_,⟨rfl,rfl⟩,rfl,rfl⟩
  exact Gr (A3 C C)<|Ga C<|Ad<|Am (S1 4 C)<|Ay<|A1 C C I Av ⟨congrArg Value.bool<|decide_eq_decide.2 ⟨λh=>⟨by assumption,h⟩,λh=>h.2⟩,rfl⟩
 exact eb<|eb<|eb<|eb<|eb<|Gr (Bd C C)<|Ga C<|Ad<|Am (S1 4 C)<|Ay<|A1 C C I Av ⟨congrArg Value.bool (decide_eq_false (λh=>by have:=h.1;omega)).symm,rfl⟩
variable {κ:Ctx}{I:List Item}
def bitB(v:Int):BitVec 64:=if v<0\/64<=v then 0#64 else 1#64 <<< v.toNat
def maskB(l:List Int):BitVec 64:=l.foldl (λm v=>m ||| bitB v) 0#64
def allB(n:Int):BitVec 64:=if n<=0 then 0#64 else if 64<=n then 18446744073709551615#64 else (1#64 <<< n.toNat) - 1#64
def ones1(m:BitVec 64):BitVec 64:=((m >>> (1:Int).toNat) &&& 6148914691236517205#64)+(m &&& 6148914691236517205#64)
def ones2(m:BitVec 64):BitVec 64:=((m >>> (2:Int).toNat) &&& 3689348814741910323#64)+(m &&& 3689348814741910323#64)
def ones3(m:BitVec 64):BitVec 64:=((m >>> (4:Int).toNat)+m) &&& 1085102592571150095#64
def ones4(m:BitVec 64):BitVec 64:=m+(m >>> (8:Int).toNat)
def ones5(m:BitVec 64):BitVec 64:=m+(m >>> (16:Int).toNat)
def ones6(m:BitVec 64):BitVec 64:=m+(m >>> (32:Int).toNat)
def onesB(m:BitVec 64):Int:=((ones6 (ones5 (ones4 (ones3 (ones2 (ones1 m)))))).toNat:Int) % 128
theorem ones_small(m:BitVec 64):(ones6 (ones5 (ones4 (ones3 m)))).toNat<9223372036854775808:=by
 have h3:(ones3 m).toNat<=1085102592571150095:=by unfold ones3;rw [BitVec.toNat_and];exact Nat.and_le_right
 generalize ones3 m=a at h3
 have M:(ones4 a).toNat<=a.toNat+a.toNat / 256:=by
  unfold ones4;rw [BitVec.toNat_add,BitVec.toNat_ushiftRight,Nat.shiftRight_eq_div_pow,show 2 ^ (8:Int).toNat=256 by decide];exact Nat.mod_le _ _
 generalize ones4 a=b at M
 have Z:(ones5 b).toNat<=b.toNat+b.toNat / 65536:=by
  unfold ones5;rw [BitVec.toNat_add,BitVec.toNat_ushiftRight,Nat.shiftRight_eq_div_pow,show 2 ^ (16:Int).toNat=65536 by decide];exact Nat.mod_le _ _
 generalize ones5 b=c at Z
 have h6:(ones6 c).toNat<=c.toNat+c.toNat / 4294967296:=by
  unfold ones6;rw [BitVec.toNat_add,BitVec.toNat_ushiftRight,Nat.shiftRight_eq_div_pow,show 2 ^ (32:Int).toNat=4294967296 by decide];exact Nat.mod_le _ _
 omega
theorem Bit_ok(v:Int):eu prog κ 156 [e7 v] I (λr J=>r=U64 (bitB v)/\I=J):=by
 refine Ce1 Tryz.func156 C C ?_
 refine Af<|Ga C<|Ad<|Ap<|Af<|Gm C<|Gr (Bb C C)<|Gm C<|Br (d:=5) C (λZ=>?_)<|λZ=>?_
 ·exact eb<|eb<|Gr (A3 C C)<|Ad<|Dp C<|Af<|Ga C<|Ad<|Ay<|Aq<|A1 C C I Av ⟨by unfold bitB;rw [if_pos om];rfl,rfl⟩
 refine e9 (Ai C)<|e9 (C3 C C)<|Gr (Bd C C)<|Ad<|A8 C (λM=>?_)<|λM=>?_
 ·exact Af<|Ga C<|Ad<|Ay<|Aq<|A1 C C I Av ⟨by unfold bitB;rw [if_pos om];rfl,rfl⟩
 exact Aw<|Ah<|Af<|Gm C<|Gr (Runs.shlB (a:=1#64) C C om om)<|Ga C<|Ad<|Ay<|A1 C C I Av ⟨by unfold bitB;rw [if_neg om],rfl⟩
theorem MaskAll_ok(n:Int):eu prog κ 157 [e7 n] I (λr J=>r=U64 (allB n)/\I=J):=by
 refine Ce1 Tryz.func157 C C ?_
 refine Af<|Ga C<|Ad<|Ap<|A0<|Af<|Gm C<|Gr (E3 C C)<|Ga C<|Ad<|A8 C (λZ=>?_)<|λZ=>?_
 ·exact Af<|Ga C<|Ad<|Ay<|Be<|Aq<|A1 C C I Av ⟨by unfold allB;rw [if_pos om];rfl,rfl⟩
 refine Af<|Gm C<|Gr (C3 C C)<|Ga C<|Ad<|A8 C (λM=>?_)<|λM=>?_
 ·exact Af<|Ga C<|Ad<|Ay<|Be<|Aq<|A1 C C I Av ⟨by unfold allB;rw [if_neg om,if_pos om];rfl,rfl⟩
 exact Aw<|Al<|Ah<|Af<|Gm C<|Gr (Runs.shlB (a:=1#64) C C om om)<|Gr (Runs.subB (a:=(1#64) <<< (n).toNat) (b:=1#64) C C)<|Ga C<|Ad<|Ay<|A1 C C I Av ⟨by unfold allB;rw [if_neg om,if_neg om],rfl⟩
theorem OnesCount_ok(m:BitVec 64):eu prog κ 176 [U64 m] I (λr J=>r=e7 (onesB m)/\I=J):=by
 refine Ce1 Tryz.func176 C C ?_
 refine Af<|Ga C<|Ad<|Af<|Gm C<|Gr (E9 (a:=m) C C om om)<|Gr (Eb (a:=m >>> (1:Int).toNat) (b:=6148914691236517205#64) C C)<|Gm C<|Gr (Eb (a:=m) (b:=6148914691236517205#64) C C)<|Gr (Runs.addB (a:=(m >>> (1:Int).toNat) &&& (6148914691236517205#64)) (b:=m &&& (6148914691236517205#64)) C C)<|Ga C ?_
 generalize hm1:((m >>> (1:Int).toNat) &&& (6148914691236517205#64))+(m &&& (6148914691236517205#64))=m1
 refine Ad<|Af<|Gm C<|Gr (E9 (a:=m1) C C om om)<|Gr (Eb (a:=m1 >>> (2:Int).toNat) (b:=3689348814741910323#64) C C)<|Gm C<|Gr (Eb (a:=m1) (b:=3689348814741910323#64) C C)<|Gr (Runs.addB (a:=(m1 >>> (2:Int).toNat) &&& (3689348814741910323#64)) (b:=m1 &&& (3689348814741910323#64)) C C)<|Ga C ?_
 generalize hm2:((m1 >>> (2:Int).toNat) &&& (3689348814741910323#64))+(m1 &&& (3689348814741910323#64))=m2
 refine Ad<|Am (S1 0 C)<|Af<|Gm C<|Gr (E9 (a:=m2) C C om om)<|Gm C<|Gr (Runs.addB (a:=m2 >>> (4:Int).toNat) (b:=m2) C C)<|Gr (Eb (a:=(m2 >>> (4:Int).toNat)+m2) (b:=1085102592571150095#64) C C)<|Ga C ?_
 generalize hm3:((m2 >>> (4:Int).toNat)+m2) &&& (1085102592571150095#64)=m3
 refine Ad<|Af<|Gm C<|Gm C<|Gr (E9 (a:=m3) C C om om)<|Gr (Runs.addB (a:=m3) (b:=m3 >>> (8:Int).toNat) C C)<|Ga C ?_
 generalize hm4:m3+(m3 >>> (8:Int).toNat)=m4
 refine Ad<|Af<|Gm C<|Gm C<|Gr (E9 (a:=m4) C C om om)<|Gr (Runs.addB (a:=m4) (b:=m4 >>> (16:Int).toNat) C C)<|Ga C ?_
 generalize hm5:m4+(m4 >>> (16:Int).toNat)=m5
 refine Ad<|Am (S1 0 C)<|Af<|Gm C<|Gm C<|Gr (E9 (a:=m5) C C om om)<|Gr (Runs.addB (a:=m5) (b:=m5 >>> (32:Int).toNat) C C)<|Ga C ?_
 generalize hm6:m5+(m5 >>> (32:Int).toNat)=m6
 exact Ad<|Af<|Gm C<|Gr (Runs.toI Tryz.underlying207 Cb C<|by subst hm6 hm5 hm4 hm3;exact ones_small _)<|Gr (Runs.and127 C C om)<|Ga C<|Ad<|Ay<|A1 C C I Av ⟨by subst hm6 hm5 hm4 hm3 hm2 hm1;rfl,rfl⟩
theorem MCount_ok(m:BitVec 64):eu prog κ 155 [U64 m] I (λr J=>r=e7 (onesB m)/\I=J):=by
 refine Ce1 Tryz.func155 C C ?_
 refine Af<|Ga C<|Ad<|Af<|Gm C<|Gc0 (Aj c_ C C<|OnesCount_ok m) ?_
 exact Ga C<|Ad<|Ay<|A1 C C I Av ⟨rfl,rfl⟩
theorem bitB_two{v:Int}(Z:0<=v)(M:v<64):bitB v=BitVec.twoPow 64 v.toNat:=by
 unfold bitB;rw [if_neg om];rfl
theorem getLsb_bitB{v:Int}(hi:i<64):(bitB v).getLsbD i=decide (v=(i:Int)):=by
 by_cases h:0<=v/\v<64
 ·rw [bitB_two h.1 h.2,BitVec.getLsbD_twoPow]
  have e:(v.toNat=i)↔(v=(i:Int)):=by omega
  simp [hi,h,e]
 unfold bitB
 rw [if_pos om]
 have:¬v=(i:Int):=by omega
 simp [this]
theorem getLsb_maskB(hi:i<64):∀(l:List Int) (m:BitVec 64),(l.foldl (λm v=>m ||| bitB v) m).getLsbD i=(m.getLsbD i||decide ((i:Int)∈l))
 |[],m=>by simp
 |v::l,m=>by
  rw [List.foldl_cons,getLsb_maskB hi l,BitVec.getLsbD_or,getLsb_bitB hi]
  by_cases h1:v=(i:Int)
  ·simp [h1]
  have:¬(i:Int)=v:=λe=>h1 e.symm
  simp [h1,this]



variable {κ:Ctx}{I:List Item}
theorem addRow_no{rows:List (BitVec 64)}{e:Pt}(h:¬(0<=e.u/\e.u<e.v/\e.v<rows.length)):addRow rows e=rows:=by unfold addRow;rw [if_neg h]
theorem MRows_ok(hl:Sl κ I v es):eu prog κ 154 [.agg #[e7 nd,v]] I (λr J=>∃a c,r = .slice a (ek nd es).length c/\J=vc 207 (.slice a (ek nd es).length c) (ek nd es)::I):=by
 refine B9 hl.le λak=>?_
 refine Ce1 Tryz.func154 C C ?_
 refine Af<|Ge1 (Bc (cs:=[_,_]) C C C) λb1=>Ga C<|Ad<|Af<|Gf fld38_0 C<|Gl ef ?_
 refine Gr (Do C C)<|Gr (Er C C)<|Ge2 (E1 (α:=(BitVec 64)) (n:=(min (max nd 0) 64).toNat) B3 ty207 C C C om om dc C) λaa ab=>?_
 refine Ga C ?_
 have an:(replicate (min (max nd 0) 64).toNat (default:(BitVec 64))).length=(min (max nd 0) 64).toNat:=List.length_replicate
 refine Ad<|Ap<|Af<|Gf fld38_1 C<|Gl ty36 ?_
 refine Gr (B5 (α:=Pt) (xs:=es) Ax C<|A6 hl)<|Gm C<|Ad<|A0<|B1 (σ:=Nat×(List<|BitVec 64)) (λs=>([(3,.slice aa (replicate ((min (max nd 0) 64).toNat) (default:(BitVec 64))).length ab),(12,v),(13,e7 ((es.length:Nat):Int)),(14,e7 ((s.1:Nat):Int))]:Env)) (λs=>vc 207 (.slice aa (replicate ((min (max nd 0) 64).toNat) (default:(BitVec 64))).length ab) (s.2)::e8 b1 [e7 nd,v] 38::I) (λs=>(s.1<=es.length)/\(s.2=ek nd (es.take s.1))/\(s.2.length=(min (max nd 0) 64).toNat)) (λs=>es.length - s.1) (0,replicate (min (max nd 0) 64).toNat (default:(BitVec 64))) (show ((0:Nat)<=es.length)/\((replicate (min (max nd 0) 64).toNat (default:(BitVec 64)):List (BitVec 64))=ek nd (es.take (0:Nat)))/\((replicate (min (max nd 0) 64).toNat (default:(BitVec 64)):List (BitVec 64)).length=(min (max nd 0) 64).toNat) from ⟨om,rfl,(by simp)⟩) (Aa C<|Aa C<|Aa C<|Aa Cd Bl) (show Fit κ _ (vc 207 (.slice aa (replicate ((min (max nd 0) 64).toNat) (default:(BitVec 64))).length ab) ((replicate (min (max nd 0) 64).toNat (default:(BitVec 64))))::e8 b1 [e7 nd,v] 38::I) from Bf) ?_
 rintro ⟨k,rows⟩ hp
 dsimp only at hp ⊢
 obtain ⟨hk,hr,M⟩:=hp
 refine Af<|Gr (Bb C C)<|Ad<|Ap<|A8 C (λae=>?_)<|λae=>?_
 ·refine Aw (Ah<|Ap<|A0<|Af<|Gr (Az (α:=Pt) (xs:=es) Ax ty105 C C (A6 hl) om oo)<|Gr (B2 (α:=Pt) (xs:=es) ty105 C (A6 hl) om oo)<|Ge1 (A2 ty105 C) λb4=>Ge0 (Da ty105) ?_)
  refine Ad<|Af<|Gf fld105_0 C<|Gl ef ?_
  refine Gr (C3 C C)<|Gm C<|Br (d:=21) C (λaj=>?_)<|λaj=>?_
  ·refine e9 (Ac fld105_0 C) (e9 (A7 ef) ?_)
   refine e9 (Ac fld105_1 C)<|e9 (A7 ef) ?_
   refine e9 (Bb C C)<|Gr (A3 C C)<|Gm C<|Br (d:=28) C (λah=>?_)<|λah=>?_
   ·refine e9 (Ac fld105_1 C) (e9 (A7 ef) ?_)
    refine e9 (Ai C)<|e9 (Bj B3 C)<|e9 (Bb C C)<|Gr (A3 C C)<|Ad<|Am (S6 34 5 3 12 13 14 C C C C C C)<|A8 C (λai=>?_)<|λai=>?_
    ·refine Ap (Bq mixed<|Cc (e8 b4 [e7 ((e_ es k).u),e7<|(e_ es k).v] 105::vc 207 (.slice aa (replicate ((min (max nd 0) 64).toNat) (default:(BitVec 64))).length ab) (rows)::e8 b1 [e7 nd,v] 38::I) 10<|Dr 0 C (Ai C)<|Dr 1 C (Ac fld105_0 C)<|Dr 2 C (A7 ef) ?_)
     refine Dr 3 C (Az (α:=(BitVec 64)) (xs:=rows) B3 ty207 C C Bh om oo)<|Dr 4 C (B4 (α:=(BitVec 64)) (xs:=rows) (u:=U64 ((e_ rows<|(e_ es k).u))) ty207 C Bh om oo C)<|Dr 5 C (Ac fld105_1 C)<|Dr 6 C (A7 ef) ?_
     refine Dr 7 C (Runs.shlB (a:=1#64) C C om om)<|Dr 8 C (D8 (a:=(e_ rows<|(e_ es k).u)) (b:=(1#64) <<< ((e_ es k).v).toNat) C C)<|Dr 9 C (Az (α:=(BitVec 64)) (xs:=rows) B3 ty207 C C Bh om oo)<|Ct kr ?_
     refine Ae 10 C (Cx (α:=(BitVec 64)) (xs:=rows) (e:=207) (new:=(e_ rows<|(e_ es k).u) ||| ((1#64) <<< ((e_ es k).v).toNat)) ty207 C C C om oo am) ?_
     rintro _ _ ⟨rfl,rfl⟩
     refine Cu kr ?_
     refine Ah<|Am (S5 5 3 12 13 14 C C C C C)<|Bq mixed<|Cc (e8 b4 [e7 ((e_ es k).u),e7<|(e_ es k).v] 105::vc 207 (.slice aa (replicate ((min (max nd 0) 64).toNat) (default:(BitVec 64))).length ab) (List.set rows ((e_ es k).u).toNat ((e_ rows<|(e_ es k).u) ||| ((1#64) <<< ((e_ es k).v).toNat)))::e8 b1 [e7 nd,v] 38::I) 10<|Dr 0 C (Ai C)<|Dr 1 C (Ac fld105_1 C)<|Dr 2 C (A7 ef) ?_
     refine Dr 3 C (Az (α:=(BitVec 64)) (xs:=List.set rows ((e_ es k).u).toNat ((e_ rows<|(e_ es k).u) ||| ((1#64) <<< ((e_ es k).v).toNat))) B3 ty207 C C Bh om oo)<|Dr 4 C (B4 (α:=(BitVec 64)) (xs:=List.set rows ((e_ es k).u).toNat ((e_ rows<|(e_ es k).u) ||| ((1#64) <<< ((e_ es k).v).toNat))) (u:=U64 ((e_ (List.set rows ((e_ es k).u).toNat ((e_ rows<|(e_ es k).u) ||| ((1#64) <<< ((e_ es k).v).toNat)))<|(e_ es k).v))) ty207 C Bh om oo C)<|Dr 5 C (Ac fld105_0 C)<|Dr 6 C (A7 ef) ?_
     refine Dr 7 C (Runs.shlB (a:=1#64) C C om om)<|Dr 8 C (D8 (a:=(e_ (List.set rows ((e_ es k).u).toNat ((e_ rows<|(e_ es k).u) ||| ((1#64) <<< ((e_ es k).v).toNat)))<|(e_ es k).v)) (b:=(1#64) <<< ((e_ es k).u).toNat) C C)<|Dr 9 C (Az (α:=(BitVec 64)) (xs:=List.set rows ((e_ es k).u).toNat ((e_ rows<|(e_ es k).u) ||| ((1#64) <<< ((e_ es k).v).toNat))) B3 ty207 C C Bh om oo)<|Ct kr ?_
     refine Ae 10 C (Cx (α:=(BitVec 64)) (xs:=List.set rows ((e_ es k).u).toNat ((e_ rows<|(e_ es k).u) ||| ((1#64) <<< ((e_ es k).v).toNat))) (e:=207) (new:=(e_ (List.set rows ((e_ es k).u).toNat ((e_ rows<|(e_ es k).u) ||| ((1#64) <<< ((e_ es k).v).toNat)))<|(e_ es k).v) ||| ((1#64) <<< ((e_ es k).u).toNat)) ty207 C C C om oo am) ?_
     rintro _ _ ⟨rfl,rfl⟩
     refine Cu kr ?_
     refine Al<|Ah<|Am (S4 3 12 13 14 C C C C)<|Au<|Gr (Rad C C)<|Gm C<|Bo ?_
     have Z:List.set (List.set rows ((e_ es k).u).toNat ((e_ rows<|(e_ es k).u) ||| ((1#64) <<< ((e_ es k).v).toNat))) ((e_ es k).v).toNat ((e_ (List.set rows ((e_ es k).u).toNat ((e_ rows<|(e_ es k).u) ||| ((1#64) <<< ((e_ es k).v).toNat)))<|(e_ es k).v) ||| ((1#64) <<< ((e_ es k).u).toNat))=addRow rows (e_ es k):=by unfold addRow;rw [if_pos om]
     rw [Z]
     exact Cf ((k+1),(addRow rows<|e_ es k))<|by dsimp only;exact ⟨om,(by rw [rowsB_take om,←hr];first|done|exact Z),(by first|exact M|(rw [addRow_len];exact M))⟩
    refine Aw<|Al<|Ah<|Au<|Gr (Rad C C)<|Gm C<|Bo ?_
    have Z:rows=addRow rows (e_ es k):=(addRow_no om).symm
    exact Cf ((k+1),(rows))<|by dsimp only;exact ⟨om,(by rw [rowsB_take om,←hr];first|done|exact Z),(by first|exact M|(rw [addRow_len];exact M))⟩
   refine eb<|eb<|eb<|eb<|eb<|Gr (Bd C C)<|Ad<|Am (S6 34 5 3 12 13 14 C C C C C C)<|Dw C<|Aw<|Al<|Ah<|Au<|Gr (Rad C C)<|Gm C<|Bo ?_
   have Z:rows=addRow rows (e_ es k):=(addRow_no om).symm
   exact Cf ((k+1),(rows))<|by dsimp only;exact ⟨om,(by rw [rowsB_take om,←hr];first|done|exact Z),(by first|exact M|(rw [addRow_len];exact M))⟩
  refine eb<|eb<|eb<|eb<|eb<|Gr (Bd C C)<|Gm C<|eb<|eb<|eb<|eb<|eb<|Gr (Bd C C)<|Ad<|Am (S6 34 5 3 12 13 14 C C C C C C)<|Dw C<|Aw<|Al<|Ah<|Au<|Gr (Rad C C)<|Gm C<|Bo ?_
  have Z:rows=addRow rows (e_ es k):=(addRow_no om).symm
  exact Cf ((k+1),(rows))<|by dsimp only;exact ⟨om,(by rw [rowsB_take om,←hr];first|done|exact Z),(by first|exact M|(rw [addRow_len];exact M))⟩
 refine Bx<|Ao<|Ao<|A9<|Ah<|Af<|Gm C<|Ga C<|Ad<|Ay ?_
 rw [List.take_of_length_le om] at hr
 subst hr
 have ad:(ek nd es).length=(replicate (min (max nd 0) 64).toNat (default:(BitVec 64))).length:=by omega
 exact A1 C C (vc 207 (.slice aa (ek nd es).length ab) (ek nd es)::I) (by rw [ad];exact Bf) ⟨_,_,by rw [ad],rfl⟩
theorem DeleteE_at{F:Item->List Item}{j:Nat}(aa:AtF I (vc 105 (.slice a n c) xs) F)(hn:n=xs.length)(M:i<j)(hj:j<=xs.length)(ab:xs.length<=1000000000):eu prog κ 274 [.slice a n c,e7 (i:Int),e7 (j:Int)] I λr J=>∃ys:List Pt,(r = .slice a (List.take i xs++List.drop j xs).length c/\ys=(List.take i xs++List.drop j xs))/\J=[]++F (vc 105 (.slice a ys.length c) ys):=
 eu.at (Z:=λ_=>[]) (X:=λys:List Pt=>vc 105 (.slice a ys.length c) ys) (Post:=λr ys=>r = .slice a (List.take i xs++List.drop j xs).length c/\ys=(List.take i xs++List.drop j xs)) aa λJ _ _=>by subst hn;exact (DeleteE_ok M hj ab).mono λr J' h=>⟨_,⟨h.1,rfl⟩,h.2.symm⟩
theorem RemG_ok{nd:Int}{a0:Option Addr}{c0:Nat}{es:List Pt}(hl:Sl κ I (.slice a0 es.length c0) es)(u v:Int)(hb:es.length<=10000000):eu prog κ 263 [.agg #[e7 nd,.slice a0 es.length c0],e7 u,e7 v] I (λr J=>(remG nd es u v≠0/\r = .tuple #[.agg #[e7 0,.slice none 0 0],e7 (remG nd es u v)]/\I=J)\/(∃a c,remG nd es u v=0/\r = .tuple #[.agg #[e7 nd,.slice a (without es (edgeP u v)).length c],e7 0]/\J=vc 105 (.slice a (without es (edgeP u v)).length c) (without es (edgeP u v))::I)):=by
 refine Ce3 Tryz.func263 C C ?_
 refine Af (Ge1 (Bc (cs:=[_,_]) C C C) λb1=>Ge1 (A2 ty38 C) λb2=>Ga C (Ad (Ap (Af (Gl2 ty38 ?_)))))
 refine Gm C (Gm C (Gc0 (Aj c_ C C (Change_ok (A6 hl) u v)) ?_))
 refine Ga C (Ad (Af (Gm C (Gr (Bn C C) (Ad (A8 C (λc16=>?_) (λc16=>?_)))))))
 ·refine Af (Gr (Bp (cells:=[_,_]) ty38 C2 pl38 C C) (Gm C (Ge0 (Da ty38) ?_)))
  refine Ga C (Ad (Am (S2 7 6 C C) (Ay (Aq ?_))))
  have hz:remG nd es u v=changeG nd es u v:=by unfold remG;rw [if_pos om]
  exact C0 C ty38 C C mm C I Av (.inl ⟨by rw [hz];omega,by rw [hz],rfl⟩)
 refine Aw (Ah (Af (Gl2 ty38 ?_)))
 refine Gm C (Gm C (G.e (Aj c_ C C (Place_ok (A6 hl) u v om)) ?_))
 rintro _ _ ⟨_,_,⟨i3,q4,rfl,hi3,rfl⟩,rfl,rfl⟩
 have hG:=(changeG_zero.1 (by omega:changeG nd es u v=0)).1
 have hile:=hi3.le
 refine Gm C (Gr (Ak C C) (Gr (Ak C C) (Ga C (Ga C (Ad (Am (S4 10 9 6 3 C C C C) (Ap (Af (Gm C (Gr (Ea C) (Ad (A8 C (λc27=>?_) (λc27=>?_)))))))))))))
 ·refine Af (Gr (Bp (cells:=[_,_]) ty38 C2 pl38 C C) (Ge0 (Da ty38) ?_))
  refine Ga C (Ad (Ay (Aq ?_)))
  have hz:remG nd es u v=7:=by unfold remG;rw [if_neg om,if_neg (λhm=>c27 ((hi3.mem hG.asc).2 hm))]
  exact C0 C ty38 C C mm C I Av (.inl ⟨by rw [hz];decide,by rw [hz],rfl⟩)
 refine Aw (Ah (Ap (Bq mixed (Cc (e8 b2 [e7 0,.slice none 0 0] 38::e8 b1 [e7 nd,.slice a0 es.length c0] 38::I) 10 (Dr 0 C (Ac fld38_0 C) (Dr 1 C (A7 ef) ?_))))))
 refine Dr 2 C (Ac fld38_1 C) (Dr 3 C (A7 ty36) ?_)
 refine Dr 5 C (Ai C) (Dr 6 C (Ai C) (Dr 7 C (Rad C C) (Ds1 4 (Sc2 C (Aj c_ C C (CloneE (xs:=es) (A6 hl) om)) λad5 cp6=>?_))))
 refine Ds1 8 (Se C (Aj c_ C C (DeleteE_at (i:=i3) (j:=(i3+1)) (by repeat (first|exact AtF.head _ _|apply AtF.tail)) C om om om)) ?_)
 rintro _ _ ⟨_,_,⟨_,⟨rfl,rfl⟩,rfl⟩,rfl,rfl⟩
 refine ⟨Bf,?_⟩
 show D prog κ _ _ _ _ _ _ _ ([(37,.slice ad5 (List.take i3 es++List.drop (i3+1) es).length cp6),(33,.slice ad5 es.length cp6),(36,e7 ((i3:Int)+1)),(35,e7 ((i3:Int))),(34,e7 ((i3:Int))),(32,.slice a0 es.length c0),(31,.pointer (some ⟨b1,1,none⟩)),(30,e7 nd),(29,.pointer (some ⟨b1,0,none⟩)),(27,.bool (decide (¬(i3<es.length/\e_ es i3=edgeP u v)))),(26,.bool (decide (i3<es.length/\e_ es i3=edgeP u v))),(10,.bool (decide (i3<es.length/\e_ es i3=edgeP u v))),(9,e7 ((i3:Int))),(6,.pointer (some ⟨b2,0,none⟩)),(3,.pointer (some ⟨b1,0,none⟩))]:Env) (vc 105 (.slice ad5 (List.take i3 es++List.drop (i3+1) es).length cp6) (List.take i3 es++List.drop (i3+1) es)::e8 b2 [e7 0,.slice none 0 0] 38::e8 b1 [e7 nd,.slice a0 es.length c0] 38::I)
 refine Dr 9 C (Bp (cells:=[_,_]) ty38 C2 pl38 C C) (Ct kr ?_)
 refine Ae 10 C (Da ty38) ?_
 rintro _ _ ⟨rfl,rfl⟩
 refine Du (i:=11) kr C (Bk C) C C (Ba C) ?_
 refine Cu kr ?_
 refine Ah (Am (S2 7 6 C C) (Ay ?_))
 have hz:remG nd es u v=0:=by unfold remG;rw [if_neg om,if_pos ((hi3.mem hG.asc).1 (Classical.not_not.1 c27))]
 have hE:List.take i3 es++List.drop (i3+1) es=(without es (edgeP u v)):=hi3.del hG.asc ((hi3.mem hG.asc).1 (Classical.not_not.1 c27))
 exact C0 C ty38 C C mm C (vc 105 (.slice ad5 (without es (edgeP u v)).length cp6) (without es (edgeP u v))::I) (by rw [←hE];exact Bf) (.inr ⟨ad5,cp6,hz,by rw [←hE];rfl,rfl⟩)

section
variable {P:Program}{κ:Ctx}{N:Frm}{L:Env}{I J:List Item}{d:Option Tmp}{ty:TypeId}{ps:String}{af:Array Edge}{gd:Option (Nat×Bool)}
theorem vc.isSome{α:Type}[Enc α]{xs:List α}{e:TypeId}(h:vc e (.slice ad n c) xs∈I):∀w,Sep κ w I->(0<xs.length->ad≠none):=λw hs hlt=>by
 obtain ⟨b,o,cap,Z,_⟩:=((C8 (κ:=κ) h) w hs).some hlt
 cases Z
 exact λM=>by cases M
theorem Runs.idxs(α:Type)[Enc α]{x y:Operand}{T E by':Nat}{ag:Bool}{z:List Value}{i:Int}(ht:P.underlying T=some (.slice E))(hE:tyF P E=some (Enc.sz α,ag,by',z))(hx:er L x=some (.slice ad n c))
  (M:er L y=some (e7 i)) (Z:ad≠none) (h0:0<=i) (hn:i<n):Runs P κ N ⟨d,.indexAddr T x y,ty,ps,af,gd⟩ L J (elemPtr (.slice ad n c)<|i.toNat*Enc.sz α):=by
 cases ad with
 |none=>exact absurd rfl Z
 |some ad=>exact λa w Z hs=>by simp [execOp,Z.eval hx,Z.eval M,Instr.indexAt,asIntOf,run_underlying ht,h0,hn,run_sizeOf hE,elemPtr]
end
variable {κ:Ctx}{I:List Item}
theorem edgesK_take{xs:List Lk}{k:Nat}(h:k<xs.length):edgesK (xs.take (k+1))=edgesK (xs.take k)++[(⟨(e_ xs k).u,(e_ xs k).v⟩:Pt)]:=by
 unfold edgesK;rw [Cl xs k h,List.map_append];rfl
theorem LEdges_ok{xs:List Lk}(Z:Sl κ I va xs)(ah:xs.length<=100000):eu prog κ 108 [.agg #[e7 nd,va]] I (λr J=>∃a c,r = .agg #[e7 nd,.slice a (edgesK xs).length c]/\J=vc 105 (.slice a (edgesK xs).length c) (edgesK xs)::I):=by
 refine B9 Z.le λab=>?_
 refine Ce1 Tryz.func108 C C ?_
 refine Af<|Ge1 (Bc (cs:=[_,_]) C C C) λb1=>Ge1 (A2 ty38 C) λb2=>Ad<|Af<|Gf fld35_0 C<|Gl ef ?_
 refine Gr (Bp (cells:=[_,_]) ty38 C2 pl38 C C)<|Ge1 (A2 ty38 C) λb3=>Ge0 (Da ty38) ?_
 refine Ad<|Ap<|Af<|Gf fld35_1 C<|Gl ty33 ?_
 refine Gr (B5 (α:=Lk) (xs:=xs) A4 C<|A6 Z)<|Gm C<|Ad<|A0<|B1 (σ:=Nat×(Option Addr)×Nat×(List Pt)) (λs=>([(2,.pointer<|some ⟨b2,0,none⟩),(3,.pointer<|some ⟨b3,0,none⟩),(10,va),(11,e7 ((xs.length:Nat):Int)),(12,e7 ((s.1:Nat):Int))]:Env)) (λs=>vc 105 (.slice s.2.1 s.2.2.2.length s.2.2.1) (s.2.2.2)::e8 b3 [e7 nd,.slice s.2.1 s.2.2.2.length s.2.2.1] 38::e8 b2 [e7 0,.slice none 0 0] 38::e8 b1 [e7 nd,va] 35::I) (λs=>(s.1<=xs.length)/\(s.2.2.2=edgesK (xs.take s.1))) (λs=>xs.length - s.1) (0,none,0,[]) (show ((0:Nat)<=xs.length)/\(([]:List Pt)=edgesK (xs.take (0:Nat))) from ⟨om,rfl⟩) (Aa C<|Aa C<|Aa C<|Aa C<|Aa Cd Bl) (show Fit κ _ (vc 105 (.slice none ([]).length 0) (([]))::e8 b3 [e7 nd,.slice none ([]).length 0] 38::e8 b2 [e7 0,.slice none 0 0] 38::e8 b1 [e7 nd,va] 35::I) from (Cm _ _)) ?_
 rintro ⟨k,a,c,out⟩ hp
 dsimp only at hp ⊢
 obtain ⟨hk,ho⟩:=hp
 have ad:out.length=k:=by rw [ho,edgesK_len,List.length_take];omega
 refine Af<|Gr (Bb C C)<|Ad<|Ap<|A8 C (λc13=>?_)<|λc13=>?_
 ·refine Aw (Ah<|Ap<|A0<|Af<|Gr (Az (α:=Lk) (xs:=xs) A4 ty82 C C (A6 Z) om om)<|Gr (B2 (α:=Lk) (xs:=xs) ty82 C (A6 Z) om om)<|Ge1 (A2 ty82 C) λb4=>Ge0 (Es6_6 ty82) ?_)
  refine Ad<|Au<|Gf fld38_1 C<|Gl ty36 ?_
  refine Gf fld82_0 C<|Gl ef ?_
  refine Gf fld82_1 C<|Gl ef ?_
  refine Gr (Bp (cells:=[_,_]) ty105 Dn pl105 C C)<|Ge1 (Co (α:=Pt) (cs:=[_,_]) (xs:=[⟨(e_ xs k).u,(e_ xs k).v⟩]) Ax ty105 C C dc dc C C C C) λae=>?_
  refine Ge2 (Cp (α:=Pt) (e:=105) (xs:=out) (ys:=([⟨(e_ xs k).u,(e_ xs k).v⟩]:List Pt)) Ax ty105 C C C mm Bh lcn dc C<|λ_ _=>am) λaa M=>?_
  refine Gf fld38_1 C<|Ge0 (Es2_1 ty36) ?_
  exact Bo<|Al<|Ah<|Am (S5 2 3 10 11 12 C C C C C)<|Au<|Gr (Rad C C)<|Gm C<|Bo<|Cf ((k+1),(aa),(M),(out++([⟨(e_ xs k).u,(e_ xs k).v⟩]:List Pt)))<|by dsimp only;exact ⟨om,(by rw [edgesK_take om,←ho])⟩
 refine Bx<|Ao<|Ao<|A9<|Ah<|Af<|Gl2 ty38 ?_
 refine Ge0 (Da ty38) ?_
 refine Ad<|Ay ?_
 have hE:out=edgesK xs:=by rw [ho,List.take_of_length_le om]
 exact E5 C ty38 C mm C (vc 105 (.slice a (edgesK xs).length c) (edgesK xs)::I) (by rw [←hE];exact Bm) ⟨a,c,by rw [←hE]<;>rfl,rfl⟩
theorem LGraph_ok{xs:List Lk}(hl:Sl κ I va xs)(hv:checkS nd xs=0)(aa:xs.length<=100000):eu prog κ 57 [.agg #[e7 nd,va]] I (λr J=>∃a c,r = .tuple #[.agg #[e7 nd,.slice a (edgesK xs).length c],e7 0]/\J=vc 105 (.slice a (edgesK xs).length c) (edgesK xs)::I):=by
 refine Ce1 Tryz.func57 C C ?_
 refine Af<|Ge1 (Bc (cs:=[_,_]) C C C) λb1=>Ge1 (A2 ty38 C) λb2=>Ga C<|Ad<|Ap<|Af<|Gl2 ty35 ?_
 refine G.e (Aj c_ C C<|CheckS_ok (nd:=nd)<|A6 hl) ?_
 rintro _ _ ⟨_,_,⟨rfl,rfl⟩,rfl,rfl⟩
 refine Ga C<|Ad<|Af<|Gm C<|Gr (Bn C C)<|Ad<|A8 C (λc8=>?_)<|λc8=>?_
 ·exact absurd hv c8
 refine Aw<|Ah<|Af<|Gl2 ty35 ?_
 refine G.e (Aj c_ C C<|LEdges_ok (nd:=nd) (A6 hl) om) ?_
 rintro _ _ ⟨_,_,⟨M,Z,rfl,rfl⟩,rfl,rfl⟩
 refine Ge0 (Da ty38) ?_
 exact Ga C<|Ad<|Ay<|C0 C ty38 C C mm C (vc 105 (.slice M (edgesK xs).length Z) (edgesK xs)::I) Bm ⟨M,Z,rfl,rfl⟩

end Go.Sl
namespace Go.Sl
end Go.Sl
namespace Go.Sl
end Go.Sl
namespace Go.Sl
end Go.Sl
namespace Go.Sl
def sideL(N:Nat)(R:Int->Bool):List Int:=((List.range N).map λk=>((k:Nat):Int)).filter R
theorem mem_sideL{N:Nat}{R:Int->Bool}{z:Int}:z∈sideL N R↔(0<=z/\z<N)/\R z=true:=by
 unfold sideL
 rw [List.mem_filter,List.mem_map]
 constructor
 ·rintro ⟨⟨k,Z,rfl⟩,h⟩
  exact ⟨⟨by omega,by have:=List.mem_range.1 Z;omega⟩,h⟩
 rintro ⟨⟨M,h1⟩,h⟩
 exact ⟨⟨z.toNat,List.mem_range.2 om,by omega⟩,h⟩
end Go.Sl
namespace Go.Sl
end Go.Sl
namespace Go.Sl
end Go.Sl
namespace Go.Sl
end Go.Sl
namespace Go.Sl
open Go.Proofs
set_option maxRecDepth 4000
theorem intLin:LinO (λa b:Int=>a<b):=⟨λa h=>by omega,λa b c M Z=>by omega,λa b=>by omega⟩
theorem putL_eq(x:Int):∀l,putL l x=insB (λa b:Int=>a<b) l x
 |[]=>rfl
 |y::ys=>by simp only [putL,insB,putL_eq x ys]
theorem ofL_eq(l:List Int):ofL l=sortB (λa b:Int=>a<b) l:=by
 unfold ofL sortB
 congr 1
 funext acc x
 exact putL_eq x acc
theorem ofL_asc(l:List Int):(ofL l).Pairwise (λa b:Int=>a<b):=by rw [ofL_eq];exact intLin.sortB l
end Go.Sl
namespace Go.Sl
end Go.Sl
namespace Go.Sl
end Go.Sl
namespace Go.Sl
def subN(nd:Int)(W:BitVec 64):Prop:=∀x∈eo W,x<nd
end Go.Sl
namespace Go.Sl
end Go.Sl
namespace Go.Sl
end Go.Sl
namespace Go.Sl
end Go.Sl
namespace Go.Sl
open Go.Proofs
set_option maxRecDepth 4000








end Go.Sl
namespace Go.Sl
variable{M Z a b c d0 m1 m2 m3 n n4 n5 n6 u:Nat}
def valN:List Nat->Nat
 |[]=>0
 |b::bs=>2 ^ 8*valN bs+b
theorem and_dig{d:Nat}(M:b<2 ^ 8)(Z:d<2 ^ 8):(2 ^ 8*a+b) &&& (2 ^ 8*c+d)=2 ^ 8*(a &&& c)+(b &&& d):=by
 refine Nat.eq_of_testBit_eq λj=>?_
 rw [Nat.testBit_and,Nat.testBit_two_pow_mul_add _ M,Nat.testBit_two_pow_mul_add _ Z,Nat.testBit_two_pow_mul_add _<|Nat.and_lt_two_pow _ Z]
 by_cases h:j<8
 ·rw [if_pos h,if_pos h,if_pos h,Nat.testBit_and]
 rw [if_neg h,if_neg h,if_neg h,Nat.testBit_and]
def repN(c:Nat)(k:Nat):Nat:=valN (replicate k c)
theorem repN_succ(c k:Nat):repN c (k+1)=2 ^ 8*repN c k+c:=rfl
def p1(b:Nat):Nat:=((b / 2) &&& 85)+(b &&& 85)
def p2(b:Nat):Nat:=((b / 4) &&& 51)+(b &&& 51)
def p3(b:Nat):Nat:=(b / 16+b) % 16
theorem c1:∀t:Fin 2,∀x:Fin 128,(128*t.val+x.val) &&& 85=x.val &&& 85:=by decide+kernel
theorem c2:∀t:Fin 4,∀x:Fin 64,(64*t.val+x.val) &&& 51=x.val &&& 51:=by decide+kernel
theorem b1:∀b:Fin 256,p1 b.val<256/\p2 (p1 b.val) % 16<=4/\p2 (p1 b.val) / 16<=4/\p3 (p2 (p1 b.val))<=8/\p3 (p2 (p1 b.val))=((List.range 8).filter λj=>b.val.testBit j).length:=by decide+kernel
theorem step1:∀bs:List Nat,(∀b∈bs,b<256)->((valN bs / 2) &&& repN 85 bs.length)+(valN bs &&& repN 85 bs.length)=valN (bs.map p1)
 |[],_=>rfl
 |b::bs,h=>by
  have hb:=h b List.mem_cons_self
  have ih:=step1 bs λx M=>h x (List.mem_cons_of_mem _ M)
  rw [List.length_cons,repN_succ,List.map_cons]
  simp only [valN]
  have e:(2 ^ 8*valN bs+b) / 2=2 ^ 8*(valN bs / 2)+(128*(valN bs % 2)+b / 2):=by omega
  have Z:=c1 ⟨valN bs % 2,by omega⟩ ⟨b / 2,by omega⟩
  simp only at Z
  rw [e,and_dig (by omega)<|by decide,and_dig (by omega)<|by decide,Z]
  rw [show p1 b=(b / 2 &&& 85)+(b &&& 85) from rfl]
  omega
theorem step2:∀bs:List Nat,(∀b∈bs,b<256)->((valN bs / 4) &&& repN 51 bs.length)+(valN bs &&& repN 51 bs.length)=valN (bs.map p2)
 |[],_=>rfl
 |b::bs,h=>by
  have hb:=h b List.mem_cons_self
  have ih:=step2 bs λx M=>h x (List.mem_cons_of_mem _ M)
  rw [List.length_cons,repN_succ,List.map_cons]
  simp only [valN]
  have e:(2 ^ 8*valN bs+b) / 4=2 ^ 8*(valN bs / 4)+(64*(valN bs % 4)+b / 4):=by omega
  have Z:=c2 ⟨valN bs % 4,by omega⟩ ⟨b / 4,by omega⟩
  simp only at Z
  rw [e,and_dig (by omega)<|by decide,and_dig (by omega)<|by decide,Z]
  rw [show p2 b=(b / 4 &&& 51)+(b &&& 51) from rfl]
  omega
theorem step3:∀bs:List Nat,(∀b∈bs,b % 16<=4/\b / 16<=4)->(valN bs / 16+valN bs) &&& repN 15 bs.length=valN (bs.map p3)
 |[],_=>rfl
 |b::bs,h=>by
  have hb:=h b List.mem_cons_self
  have Z:=step3 bs λx M=>h x (List.mem_cons_of_mem _ M)
  have hn:valN bs % 16<=4:=by
   cases bs with
   |nil=>simp [valN]
   |cons c cs=>
    have:=(h c<|List.mem_cons_of_mem _ List.mem_cons_self).1
    simp only [valN];omega
  rw [List.length_cons,repN_succ,List.map_cons]
  simp only [valN]
  have e:(2 ^ 8*valN bs+b) / 16+(2 ^ 8*valN bs+b)=2 ^ 8*(valN bs / 16+valN bs)+(16*(valN bs % 16)+b / 16+b):=by omega
  rw [e,and_dig (by omega)<|by decide,Z,show (15:Nat)=2 ^ 4 - 1 by decide,Nat.and_two_pow_sub_one_eq_mod]
  rw [show p3 b=(b / 16+b) % 16 from rfl]
  omega
def bytesN(n:Nat):Nat->List Nat
 |0=>[]
 |k+1=>n % 256::bytesN (n / 256) k
theorem bytesN_len(n k:Nat):(bytesN n k).length=k:=by
 induction k generalizing n with
 |zero=>rfl
 |succ k ih=>simp [bytesN,ih]
theorem bytesN_lt(n k:Nat):∀b∈bytesN n k,b<256:=by
 induction k generalizing n with
 |zero=>intro b hb;cases hb
 |succ k ih=>
  intro b hb
  rcases List.mem_cons.1 hb with rfl|hb
  ·omega
  exact ih _ b hb
theorem bytesN_val:∀(k n:Nat),n<256 ^ k->valN (bytesN n k)=n
 |0,n,h=>by simp at h;subst h;rfl
 |k+1,n,h=>by
  rw [Nat.pow_succ] at h
  simp only [bytesN,valN]
  rw [bytesN_val k (n / 256) (by omega)]
  omega
def sumN':List Nat->Nat
 |[]=>0
 |b::bs=>b+sumN' bs
theorem cnt_val:∀bs:List Nat,(∀b∈bs,b<256)->((List.range (8*bs.length)).filter λj=>(valN bs).testBit j).length=sumN' (bs.map λb=>p3 (p2 (p1 b)))
 |[],_=>rfl
 |b::bs,h=>by
  have Z:=h b List.mem_cons_self
  have ih:=cnt_val bs λx hx=>h x (List.mem_cons_of_mem _ hx)
  rw [List.length_cons,show 8*(bs.length+1)=8+8*bs.length by omega,List.range_add,List.filter_append,List.length_append,List.map_cons]
  simp only [sumN',valN]
  rw [←ih,(b1 ⟨b,Z⟩).2.2.2.2,List.filter_map,List.length_map]
  congr 2
  ·refine List.filter_congr λj M=>?_
   rw [Nat.testBit_two_pow_mul_add _ Z,if_pos<|List.mem_range.1 M]
  refine List.filter_congr λj M=>?_
  show (2 ^ 8*valN bs+b).testBit (8+j)=_
  rw [Nat.testBit_two_pow_mul_add _ Z,if_neg<|by omega,Nat.add_sub_cancel_left]
theorem fold4(h0:d0<=8)(h1:Z<=8)(h2:M<=8)(en:n=d0+256*Z+65536*m2)(e1:m1=Z+256*M+65536*m3)(h4:n4=n+m1) :
  n4=(d0+Z)+256*(Z+M)+65536*(m2+m3)/\n4 / 65536=m2+m3:=by omega
theorem fold5(ha:a<=16)(M:b<=16)(hc:c<65536)(Z:n4=a+256*b+65536*(c+65536*u))(h5:n5=n4+(c+65536*u)):n5=a+256*b+c+65536*(c+u)+4294967296*u:=by omega
theorem fold6{x s t:Nat}(hx:x<65536)(M:c<=5000)(hs:s<=5000)(hu:u=s+65536*t)(Z:n5=x+65536*(c+u)+4294967296*u):n5 / 4294967296=u+t:=by omega
theorem fold_sum{d1 d2 d5 d6 d7 m4 m5 m6:Nat}(h0:d0<=8)(h1:d1<=8)(h2:d2<=8)(h3:Z<=8)(h4:M<=8)(h5:d5<=8)(h6:d6<=8)(h7:d7<=8)
  (e6:m6=d6+256*d7) (e5:m5=d5+256*d6+65536*d7) (e4:m4=M+256*d5+65536*m6) (e3:m3=Z+256*M+65536*m5) (e2:m2=d2+256*Z+65536*m4) (e1:m1=d1+256*d2+65536*m3) (e0:n=d0+256*d1+65536*m2)
  (g4:n4=n+m1) (g5:n5=n4+n4 / 65536) (g6:n6=n5+n5 / 4294967296):n6 % 128=d0+d1+d2+Z+M+d5+d6+d7:=by
 obtain ⟨a1,a2⟩:=fold4 h0 h1 h2 e0 e1 g4
 have hc:m2+m3=((d2+Z)+256*(Z+M))+65536*(m4+m5):=by clear e0 e1 e4 e5 e6 g4 g5 g6 a1 a2;omega
 have hu:m4+m5=((M+d5)+256*(d5+d6))+65536*(m6+d7):=by clear e0 e1 e2 e3 e6 g4 g5 g6 a1 a2 hc;omega
 rw [a2,hc] at g5
 rw [hc] at a1
 have b1:=fold5 (by omega) (by omega) (by omega) a1 g5
 have b2:=fold6 (x:=d0+d1+256*(d1+d2)+((d2+Z)+256*(Z+M))) (by omega) (by omega) (by omega) hu b1
 rw [b2] at g6
 clear b2 a2 hc e0 e1 e2 e3 e4 e5 g4 g5 a1
 omega
theorem fold_all{bs:List Nat}(hl:bs.length=8)(hb:∀b∈bs,b<=8)(hn:n=valN bs)(Z:n4=n+n / 256)(g5:n5=n4+n4 / 65536)(M:n6=n5+n5 / 4294967296):n6 % 128=sumN' bs/\n6<18446744073709551616:=by
 match bs,hl with
 |[d0,d1,d2,d3,d4,d5,d6,d7],_=>
  have k0:=hb d0 (by simp)
  have k1:=hb d1 (by simp)
  have k2:=hb d2 (by simp)
  have k3:=hb d3 (by simp)
  have k4:=hb d4 (by simp)
  have k5:=hb d5 (by simp)
  have k6:=hb d6 (by simp)
  have k7:=hb d7 (by simp)
  obtain ⟨m6,e6⟩:∃m6,m6=d6+256*d7:=⟨_,rfl⟩
  obtain ⟨m5,e5⟩:∃m5,m5=d5+256*d6+65536*d7:=⟨_,rfl⟩
  obtain ⟨m4,e4⟩:∃m4,m4=d4+256*d5+65536*m6:=⟨_,rfl⟩
  obtain ⟨m3,e3⟩:∃m3,m3=d3+256*d4+65536*m5:=⟨_,rfl⟩
  obtain ⟨m2,e2⟩:∃m2,m2=d2+256*d3+65536*m4:=⟨_,rfl⟩
  obtain ⟨m1,e1⟩:∃m1,m1=d1+256*d2+65536*m3:=⟨_,rfl⟩
  have e0:n=d0+256*d1+65536*m2:=by rw [hn];simp only [valN];omega
  have ed:n / 256=m1:=by
   have:n=d0+256*m1:=by clear Z g5 M;rw [hn];simp only [valN];omega
   clear e0 e1 e2 e3 e4 e5 e6 Z g5 M hn
   omega
  rw [ed] at Z
  refine ⟨?_,?_⟩
  ·rw [fold_sum k0 k1 k2 k3 k4 k5 k6 k7 e6 e5 e4 e3 e2 e1 e0 Z g5 M];simp only [sumN'];omega
  have q6:m6<=2056:=by omega
  have q5:m5<=526344:=by omega
  have q4:m4<=134744072:=by clear Z g5 M hn e0 e1 e2 e3 ed;omega
  have q3:m3<=34494482440:=by clear Z g5 M hn e0 e1 e2 e4 ed;omega
  have q2:m2<=8830587504648:=by clear Z g5 M hn e0 e1 e3 e4 e5 e6 ed;omega
  have q1:m1<=2260630401189896:=by clear Z g5 M hn e0 e2 e4 e5 e6 ed;omega
  have q0:n<=578721382704613384:=by clear Z g5 M hn e1 e3 e4 e5 e6 ed;omega
  clear e0 e1 e2 e3 e4 e5 e6 hn ed
  omega
theorem valN_le:∀bs:List Nat,(∀b∈bs,b<=c)->valN bs<=repN c bs.length
 |[],_=>Nat.le_refl _
 |b::bs,h=>by
  have M:=valN_le bs λx Z=>h x (List.mem_cons_of_mem _ Z)
  have hb:=h b List.mem_cons_self
  rw [List.length_cons,repN_succ]
  simp only [valN]
  omega
end Go.Sl
