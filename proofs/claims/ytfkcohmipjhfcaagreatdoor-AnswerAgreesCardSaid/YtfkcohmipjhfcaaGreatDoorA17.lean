/- A part of the proofs of statements of this seat: contracts of functions, and the plain laws that they lean on. No conditions. -/
import Derived.Test.YtfkcohmipjhfcaaGreatDoorA16
set_option linter.unusedVariables false
set_option linter.unusedSimpArgs false
set_option linter.unusedSectionVars false
namespace Go.Sl
open Go.Proofs
set_option maxRecDepth 4000
variable {κ:Ctx}{I:List Item}
theorem Nothing_ok  :
    CallS Tryz.prog κ 168 [] I (fun r J=>r = .agg #[.slice none 0 0,I64 0,I64 1,I64 1,.slice none 0 0]∧I=J):=by
 refine Ce0 Tryz.func168 rfl rfl ?_
 refine Ah (Ge1 (A5 ty102 rfl) fun b1=>Af (Ah (Gr (Be (cells:=[_,_]) ty40 Cj pl40 rfl rfl) (Gr (Be (cells:=[_,_]) ty88 Tryz.underlying88 pl88 rfl rfl) (Gr (Be (cells:=[_,_,_,_,_]) ty102 Es pl102 rfl rfl) (Ge0 (Ez ty102) ?_))))))
 exact Af (A2 (Cw rfl ty102 rfl mm rfl (I) A4 ⟨rfl,rfl⟩))
structure BestR (nd:Int) (es:List Pt) (N D:Int) (B:BitVec 64):Prop where
 err:checkG nd es≠0→N=0∧D=0∧B=0#64
 none:checkG nd es=0→nd=0→N=0∧D=1∧B=0#64
 some:checkG nd es=0→nd≠0→DensR nd es N D B
set_option maxHeartbeats 1000000 in
theorem BestD_ok{nd:Int}{ea:Option Addr}{ec:Nat}{es:List Pt}(hl:Sl κ I (.slice ea es.length ec) es)(hT:TabRd κ I 0 tzCells) :
    CallS Tryz.prog κ 100 [.agg #[I64 (nd),.slice ea es.length ec]] I (fun r J=>∃a c B a2 c2 parts N D E,r = .tuple #[.agg #[.slice a (listB B).length c,I64 N,I64 D,I64 E,.slice a2 (parts:List Int).length c2],I64 (checkG nd es)]∧BestR nd es N D B∧J=vc 3 (.slice a (listB B).length c) (listB B)::vc 3 (.slice a2 parts.length c2) parts::I):=by
 refine Ce1 Tryz.func100 rfl rfl ?_
 refine Ah (Ge1 (Bb (cs:=[_,_]) rfl rfl rfl) fun b1=>Ge1 (A5 ty102 rfl) fun b2=>Ga rfl (Af (Ao (Ah (Gl2 ty48 ?_)))))
 refine Gc0 (Am call83 rfl rfl (CheckGen_ok (Bf hl))) ?_
 refine Ga rfl (Af (Ah (Gm rfl (Gr (Bv rfl rfl) (Gm rfl (Bi (d:=11) rfl (fun g11=>?_) (fun g11=>?_)))))))
 ·refine Gpo (Gpo (Gpo (Gr (Ap rfl rfl) (Af (As (S4 15 4 2 1 rfl rfl rfl rfl) (Cl rfl (Ao (Ah (Gm rfl (Gr (Bv rfl rfl) (Af (A9 rfl (fun c17=>?_) (fun c17=>?_)))))))))))))
  ·refine Ah (Gr (Be (cells:=[_,_,_,_,_]) ty102 Es pl102 rfl rfl) (Gm rfl (Ge0 (Ez ty102) ?_)))
   exact Ga rfl (Af (A2 (Al (Al (Ct rfl ty102 rfl rfl mm rfl (vc 3 (.slice none (listB 0#64).length 0) (listB 0#64)::vc 3 (.slice none ([]:List Int).length 0) ([]:List Int)::I) (by rw [C8];exact Cm (show Fit κ _ I from A4) (Cm (B3 (α:=Int) _ _) (B3 (α:=Int) _ _))) ⟨none,0,0#64,none,0,[],0,0,0,by rw [C8];rfl,⟨fun _=>⟨rfl,rfl,rfl⟩,fun h=>absurd h c17,fun h=>absurd h c17⟩,rfl⟩)))))
  ·refine A0 (Ai (Ah (Gc0 (Am call168 rfl rfl Nothing_ok) ?_)))
   refine Ge0 (Ez ty102) ?_
   refine Ga rfl (Af (A2 (Al ?_)))
   have hz:checkG nd es=0:=Classical.not_not.1 c17
   have hn0:nd=0:=by first|exact c15|exact absurd g11 c17
   exact Ct rfl ty102 rfl rfl mm rfl (vc 3 (.slice none (listB 0#64).length 0) (listB 0#64)::vc 3 (.slice none ([]:List Int).length 0) ([]:List Int)::I) (by rw [C8];exact Cm (show Fit κ _ I from A4) (Cm (B3 (α:=Int) _ _) (B3 (α:=Int) _ _))) ⟨none,0,0#64,none,0,[],0,1,1,by rw [C8,hz];rfl,⟨fun h=>absurd hz h,fun _ _=>⟨rfl,rfl,rfl⟩,fun _ h=>absurd hn0 h⟩,rfl⟩
 ·refine Gro (Aa fld48_0 rfl) (Gro (Au ty3) ?_)
  refine Gro (Bs rfl rfl) (Gr (Av rfl rfl) (Af (As (S4 15 4 2 1 rfl rfl rfl rfl) (A9 rfl (fun c15=>?_) (fun c15=>?_)))))
  ·refine Ao (Ah (Gm rfl (Gr (Bv rfl rfl) (Af (A9 rfl (fun c17=>?_) (fun c17=>?_))))))
   ·refine Ah (Gr (Be (cells:=[_,_,_,_,_]) ty102 Es pl102 rfl rfl) (Gm rfl (Ge0 (Ez ty102) ?_)))
    exact Ga rfl (Af (A2 (Al (Al (Ct rfl ty102 rfl rfl mm rfl (vc 3 (.slice none (listB 0#64).length 0) (listB 0#64)::vc 3 (.slice none ([]:List Int).length 0) ([]:List Int)::I) (by rw [C8];exact Cm (show Fit κ _ I from A4) (Cm (B3 (α:=Int) _ _) (B3 (α:=Int) _ _))) ⟨none,0,0#64,none,0,[],0,0,0,by rw [C8];rfl,⟨fun _=>⟨rfl,rfl,rfl⟩,fun h=>absurd h c17,fun h=>absurd h c17⟩,rfl⟩)))))
   ·refine A0 (Ai (Ah (Gc0 (Am call168 rfl rfl Nothing_ok) ?_)))
    refine Ge0 (Ez ty102) ?_
    refine Ga rfl (Af (A2 (Al ?_)))
    have hz:checkG nd es=0:=Classical.not_not.1 c17
    have hn0:nd=0:=by first|exact c15|exact absurd g11 c17
    exact Ct rfl ty102 rfl rfl mm rfl (vc 3 (.slice none (listB 0#64).length 0) (listB 0#64)::vc 3 (.slice none ([]:List Int).length 0) ([]:List Int)::I) (by rw [C8];exact Cm (show Fit κ _ I from A4) (Cm (B3 (α:=Int) _ _) (B3 (α:=Int) _ _))) ⟨none,0,0#64,none,0,[],0,1,1,by rw [C8,hz];rfl,⟨fun h=>absurd hz h,fun _ _=>⟨rfl,rfl,rfl⟩,fun _ h=>absurd hn0 h⟩,rfl⟩
  ·refine A0 (Ai (Ah (Gl2 ty48 ?_)))
   have hz:checkG nd es=0:=by first|exact Classical.not_not.1 g11|omega
   have hG:=checkG_ok.1 hz
   have hm:=edges_le hG
   have hrng:=hG.rng
   have hnd:1≤nd:=by omega
   refine G.e (Am call169 rfl rfl (Plain_ok (Bf hl) hm hG.rng)) ?_
   rintro _ _ ⟨_,_,⟨aw,cw,ab,cb,ak,ck,ws,bs,cs,rfl,hPl,rfl⟩,rfl,rfl⟩
   refine G.e (Am call170 rfl rfl (Densest_ok (Bf hl) Br Br Br hG hm hPl om (Cc hT A4))) ?_
   rintro _ _ ⟨_,_,⟨Bn,pa,pc,parts,Nn,Dd,rfl,hS,hpl,rfl⟩,rfl,rfl⟩
   refine Gm rfl (Gr (Az rfl rfl) (Gr (Az rfl rfl) (Ge1 (A5 ty208 rfl) fun b3=>Ge1 (A5 ty40 rfl) fun b4=>Ge0 (B1 ty208) ?_)))
   refine Ge0 (B1 ty40) ?_
   refine Af (Ao (Bo mixed (Bu (blk b4 [I64 (Nn),I64 (Dd)] 40::blk b3 [U64 (Bn),.slice pa parts.length pc] 208::vc 3 (.slice pa parts.length pc) (parts)::vc 3 (.slice ak cs.length ck) (cs)::vc 3 (.slice aw ws.length cw) (ws)::vc 3 (.slice ab bs.length cb) (bs)::blk b2 [.slice none 0 0,I64 (0),I64 (0),I64 (0),.slice none 0 0] 102::blk b1 [I64 (nd),.slice ea es.length ec] 48::I) 10 (Dr 0 rfl (Aa fld208_0 rfl) (Dr 1 rfl (Au ty175) ?_)))))
   refine Dr 3 rfl (Bm (vs:=[_,_]) ty40) ?_
   refine Dr 4 rfl (Aa fld40_1 rfl) (Dr 5 rfl (Au ty3) ?_)
   refine Dr 6 rfl (Aa fld208_1 rfl) (Dr 7 rfl (Au ty22) ?_)
   refine Dr 8 rfl (Be (cells:=[_,_]) ty88 Tryz.underlying88 pl88 rfl rfl) (Ds1 2 (Sc2 rfl (Am call171 rfl rfl (MList_ok Bn (Cc hT A4))) fun ad5 cp6=>?_))
   refine Dr 9 rfl (Be (cells:=[_,_,_,_,_]) ty102 Es pl102 rfl rfl) (C4 kr ?_)
   refine Ae 10 rfl (Ez ty102) ?_
   rintro _ _ ⟨rfl,rfl⟩
   refine E3 (i:=11) kr rfl (Bg rfl) rfl rfl (Bd rfl) ?_
   refine C5 kr ?_
   exact Ai (As (S2 3 2 rfl rfl) (A2 (Ct rfl ty102 rfl rfl mm rfl (vc 3 (.slice ad5 (listB Bn).length cp6) (listB Bn)::vc 3 (.slice pa parts.length pc) parts::I) B7 ⟨ad5,cp6,Bn,pa,pc,parts,Nn,Dd,Dd,by rw [hz]<;>rfl,⟨fun h=>absurd hz h,fun _ h=>absurd h om,fun _ _=>hS⟩,rfl⟩)))
end Go.Sl
namespace Go.Sl
end Go.Sl
namespace Go.Sl
open Go.RowKit (Below)
section
variable {α:Type}[Enc α][DecidableEq α]
end
end Go.Sl
namespace Go.Sl
open Go.Proofs
set_option maxRecDepth 4000
variable {κ:Ctx}{I:List Item}
theorem nbL_len(es:List Pt)(v:Int):(nbL es v).length≤2*es.length:=by
 induction es with
 |nil=>simp [nbL]
 |cons e es ih=>
  have e1:nbL (e::es) v=((if e.u=v then [e.v] else [])++(if e.v=v then [e.u] else []))++nbL es v:=rfl
  rw [e1,List.length_append,List.length_append,List.length_cons]
  have h1:(if e.u=v then [e.v] else ([]:List Int)).length≤1:=by split<;>simp
  have h2:(if e.v=v then [e.u] else ([]:List Int)).length≤1:=by split<;>simp
  omega
theorem Neigh03_ok{nd:Int}{va:Value}{es:List Pt}(hl:Sl κ I va es)(v:Int)(hb:es.length≤1000000) :
    CallS Tryz.prog κ 115 [.agg #[I64 (nd),va],I64 (v)] I (fun r J=>∃a c,r = .slice a (nbG nd es v).length c∧J=vc 3 (.slice a (nbG nd es v).length c) (nbG nd es v)::I):=by
 refine B4 hl.le fun hmax=>?_
 refine Ce2 Tryz.func115 rfl rfl ?_
 refine Ah (Ge1 (Bb (cs:=[_,_]) rfl rfl rfl) fun b1=>Ga rfl (Af (Ao (Ah (Gl2 ty48 ?_)))))
 refine G.e (Am call30 rfl rfl (Check03G_ok (nd:=nd) (Bf hl))) ?_
 rintro _ _ ⟨_,_,⟨rfl,rfl⟩,rfl,rfl⟩
 refine Gr (Bv rfl rfl) (Af (A9 rfl (fun c10=>?_) (fun c10=>?_)))
 ·refine Ah (Ga rfl (Af (A2 (Al ?_))))
  have hX:(nbG nd es v)=[]:=if_pos c10
  exact A7 rfl rfl (vc 3 (.slice none (nbG nd es v).length 0) (nbG nd es v)::I) (by rw [hX];exact Cm (show Fit κ _ I from A4) (B3 (α:=Int) _ _)) ⟨none,0,by rw [hX];rfl,rfl⟩
 ·refine A0 (Ai (Ah (Ga rfl (Af (Ao (Ah (Gf fld48_1 rfl (Gl ty46 ?_))))))))
  refine Gr (Bz (α:=Pt) (xs:=es) Bh rfl (Bf hl)) (Gm rfl (Af (Ax (Bx (σ:=Nat×(Option Addr)×Nat×(List Int)) (fun s=>([(1,I64 (v)),(5,.slice s.2.1 s.2.2.2.length s.2.2.1),(12,va),(13,I64 (((es.length:Nat):Int))),(14,I64 (((s.1:Nat):Int)))]:Env)) (fun s=>vc 3 (.slice s.2.1 s.2.2.2.length s.2.2.1) (s.2.2.2)::blk b1 [I64 (nd),va] 48::I) (fun s=>(s.1≤es.length)∧(s.2.2.2=nbL (es.take s.1) v)) (fun s=>es.length - s.1) (0,none,0,[]) (show ((0:Nat)≤es.length)∧(([]:List Int)=nbL (es.take (0:Nat)) v) from ⟨om,rfl⟩) (Ac rfl (Ac (Cz rfl (by first|rfl|simp)) (Ac rfl (Ac rfl (Ac Cb Bq))))) (show Fit κ _ (vc 3 (.slice (none) ([]).length (0)) (([]))::blk b1 [I64 (nd),va] 48::I) from (B3 _ _)) ?_))))
  rintro ⟨k,a,c,out⟩ hp
  dsimp only at hp ⊢
  obtain ⟨hk,ho⟩:=hp
  have hol:out.length≤2*es.length:=by rw [ho];refine Nat.le_trans (nbL_len _ _) ?_;simp only [List.length_take];omega
  refine Ah (Gr (Bc rfl rfl) (Af (Ao (A9 rfl (fun c15=>?_) (fun c15=>?_)))))
  ·refine A0 (Ai (Ao (Ax (Ah (Gr (A8 (α:=Pt) (xs:=es) Bh ty135 rfl rfl (Bf hl) om om) (Gr (B0 (α:=Pt) (xs:=es) ty135 rfl (Bf hl) om om) (Ge1 (A5 ty135 rfl) fun b2=>Ge0 (B1 ty135) ?_)))))))
   refine Af (Ao (Ah (Gf fld135_0 rfl (Gl ty3 ?_))))
   refine Gm rfl (Gr (Bs rfl rfl) (Af (A9 rfl (fun c21=>?_) (fun c21=>?_))))
   ·refine Aw (Gm rfl (Gf fld135_1 rfl (Gl ty3 ?_)))
    refine Ge1 (B9 (α:=Int) (cs:=[_]) (xs:=[(at_ es (k:Int)).v]) Ab ty3 rfl rfl dc dc rfl rfl rfl rfl) fun ad3=>?_
    refine Ge2 (Ca (α:=Int) (e:=3) (xs:=out) (ys:=([(at_ es (k:Int)).v]:List Int)) Ab ty3 rfl rfl rfl mm Br lap dc rfl (fun _ _=>am)) fun ad4 cp5=>?_
    refine Ga rfl (Af (As (S6 5 7 1 12 13 14 rfl rfl rfl rfl rfl rfl) (Ah (Gf fld135_1 rfl (Gl ty3 ?_)))))
    refine Gm rfl (Gr (Bs rfl rfl) (Af (A9 rfl (fun c30=>?_) (fun c30=>?_))))
    ·refine Aw (Gm rfl (Gf fld135_0 rfl (Gl ty3 ?_)))
     refine Ge1 (B9 (α:=Int) (cs:=[_]) (xs:=[(at_ es (k:Int)).u]) Ab ty3 rfl rfl dc dc rfl rfl rfl rfl) fun ad6=>?_
     refine Ge2 (Ca (α:=Int) (e:=3) (xs:=out++([(at_ es (k:Int)).v]:List Int)) (ys:=([(at_ es (k:Int)).u]:List Int)) Ab ty3 rfl rfl rfl mm Br lap dc rfl (fun _ _=>am)) fun ad7 cp8=>?_
     exact Ga rfl (Bj (Aj (Ai (As (S5 5 1 12 13 14 rfl rfl rfl rfl rfl) (Aw (Gr (Rad rfl rfl) (Gm rfl (Bj (B6 ((k+1),(ad7),(cp8),((out++([(at_ es (k:Int)).v]:List Int))++([(at_ es (k:Int)).u]:List Int))) (by dsimp only;exact ⟨om,(by rw [nbL_take om,←ho];(first|rw [if_pos c21,if_pos c30]|rw [if_pos c21,if_neg c30]|rw [if_neg c21,if_pos c30]|rw [if_neg c21,if_neg c30])<;>simp)⟩))))))))))
    ·exact A0 (Aj (Ai (Aw (Gr (Rad rfl rfl) (Gm rfl (Bj (B6 ((k+1),(ad4),(cp5),(out++([(at_ es (k:Int)).v]:List Int))) (by dsimp only;exact ⟨om,(by rw [nbL_take om,←ho];(first|rw [if_pos c21,if_pos c30]|rw [if_pos c21,if_neg c30]|rw [if_neg c21,if_pos c30]|rw [if_neg c21,if_neg c30])<;>simp)⟩))))))))
   ·refine A0 (Ai (Ah (Gf fld135_1 rfl (Gl ty3 ?_))))
    refine Gm rfl (Gr (Bs rfl rfl) (Af (As (S7 30 7 1 5 12 13 14 rfl rfl rfl rfl rfl rfl rfl) (A9 rfl (fun c30=>?_) (fun c30=>?_)))))
    ·refine Aw (Gm rfl (Gf fld135_0 rfl (Gl ty3 ?_)))
     refine Ge1 (B9 (α:=Int) (cs:=[_]) (xs:=[(at_ es (k:Int)).u]) Ab ty3 rfl rfl dc dc rfl rfl rfl rfl) fun ad9=>?_
     refine Ge2 (Ca (α:=Int) (e:=3) (xs:=out) (ys:=([(at_ es (k:Int)).u]:List Int)) Ab ty3 rfl rfl rfl mm Br lap dc rfl (fun _ _=>am)) fun ad10 cp11=>?_
     exact Ga rfl (Bj (Aj (Ai (Aw (Gr (Rad rfl rfl) (Gm rfl (Bj (B6 ((k+1),(ad10),(cp11),(out++([(at_ es (k:Int)).u]:List Int))) (by dsimp only;exact ⟨om,(by rw [nbL_take om,←ho];(first|rw [if_pos c21,if_pos c30]|rw [if_pos c21,if_neg c30]|rw [if_neg c21,if_pos c30]|rw [if_neg c21,if_neg c30])<;>simp)⟩)))))))))
    ·exact A0 (Aj (Ai (Aw (Gr (Rad rfl rfl) (Gm rfl (Bj (B6 ((k+1),(a),(c),(out)) (by dsimp only;exact ⟨om,(by rw [nbL_take om,←ho];(first|rw [if_pos c21,if_pos c30]|rw [if_pos c21,if_neg c30]|rw [if_neg c21,if_pos c30]|rw [if_neg c21,if_neg c30])<;>simp)⟩))))))))
  ·refine Bt (Ak (Ak (A6 (Ai (Ah (Gm rfl (Gc2 (Am call82 rfl rfl (Of_ok Br om)) fun ad12 cp13=>?_)))))))
   refine Ga rfl (Af (A2 ?_))
   have ho2:out=nbL es v:=by rw [ho,List.take_of_length_le om]
   subst ho2
   have hX:nbG nd es v=ofL (nbL es v):=if_neg c10
   exact A7 rfl rfl (vc 3 (.slice ad12 (nbG nd es v).length cp13) (nbG nd es v)::I) (by rw [hX];exact Ay) ⟨ad12,cp13,by rw [hX],rfl⟩
theorem Common03_ok{nd:Int}{va:Value}{es:List Pt}(hl:Sl κ I va es)(u v:Int)(hb:es.length≤1000000) :
    CallS Tryz.prog κ 203 [.agg #[I64 (nd),va],I64 (u),I64 (v)] I (fun r J=>∃a c,r = .slice a (commonG nd es u v).length c∧J=vc 3 (.slice a (commonG nd es u v).length c) (commonG nd es u v)::I):=by
 refine Ce3 Tryz.func203 rfl rfl ?_
 refine Ah (Ge1 (Bb (cs:=[_,_]) rfl rfl rfl) fun b1=>Ga rfl (Af (Ao (Ah (Gm rfl (Gm rfl (Gr (Bs rfl rfl) (Af (A9 rfl (fun c9=>?_) (fun c9=>?_))))))))))
 ·refine Ah (Ga rfl (Af (A2 (Al ?_))))
  have hX:(commonG nd es u v)=[]:=if_pos c9
  exact A7 rfl rfl (vc 3 (.slice none (commonG nd es u v).length 0) (commonG nd es u v)::I) (by rw [hX];exact Cm (show Fit κ _ I from A4) (B3 (α:=Int) _ _)) ⟨none,0,by rw [hX];rfl,rfl⟩
 ·refine A0 (Ai (Ao (Bo mixed (Bu (blk b1 [I64 (nd),va] 48::I) 8 (Dr 0 rfl (Bm (vs:=[_,_]) ty48) ?_)))))
  refine Dr 1 rfl (Ad rfl) (Dr 3 rfl (Bm (vs:=[_,_]) ty48) ?_)
  refine Dr 4 rfl (Ad rfl) (Ds1 2 (Se rfl (Am call115 rfl rfl (Neigh03_ok (nd:=nd) (Bf hl) u om)) ?_))
  rintro _ _ ⟨_,_,⟨ad2,cp3,rfl,rfl⟩,rfl,rfl⟩
  refine ⟨Ay,?_⟩
  have hnl12:=nbG_len nd es u
  refine Ds1 5 (Se rfl (Am call115 rfl rfl (Neigh03_ok (nd:=nd) (Bf hl) v om)) ?_)
  rintro _ _ ⟨_,_,⟨ad4,cp5,rfl,rfl⟩,rfl,rfl⟩
  refine ⟨Ay,?_⟩
  have hnl15:=nbG_len nd es v
  refine Ds1 6 (Se rfl (Am call134 rfl rfl (Meet_ok Br Br (by have:=nbG_len nd es u;omega))) ?_)
  rintro _ _ ⟨_,_,⟨ad6,cp7,rfl,rfl⟩,rfl,rfl⟩
  refine ⟨Ay,?_⟩
  refine Dr 7 rfl (Bd rfl) (Dz (Ai (As (S1 6 rfl) (A2 ?_))))
  have hX:(commonG nd es u v)=_:=if_neg c9
  exact A7 rfl rfl (vc 3 (.slice ad6 (commonG nd es u v).length cp7) (commonG nd es u v)::I) (by rw [hX];exact Ay) ⟨ad6,cp7,by rw [hX],rfl⟩
theorem FindP03_ok{nd:Int}{va:Value}{es:List Pt}(hl:Sl κ I va es)(u v:Int) :
    CallS Tryz.prog κ 64 [.agg #[I64 (nd),va],I64 (u),I64 (v)] I (fun r J=>∃y:Int,r=I64 y∧FindP nd es u v y∧I=J):=by
 refine B4 hl.le fun hmax=>?_
 refine Ce3 Tryz.func64 rfl rfl ?_
 refine Ah (Ge1 (Bb (cs:=[_,_]) rfl rfl rfl) fun b1=>Ga rfl (Af (Ao (Ah (Gl2 ty48 ?_)))))
 refine G.e (Am call30 rfl rfl (Check03G_ok (nd:=nd) (Bf hl))) ?_
 rintro _ _ ⟨_,_,⟨rfl,rfl⟩,rfl,rfl⟩
 refine Gr (Bv rfl rfl) (Af (A9 rfl (fun c11=>?_) (fun c11=>?_)))
 ·exact Ah (Ga rfl (Af (A2 (Al (A7 rfl rfl (I) A4 ⟨_,rfl,.inr ⟨rfl,.inl c11⟩,rfl⟩)))))
 ·refine A0 (Ai (Ao (Ah (Gf fld48_1 rfl (Gl ty46 ?_)))))
  refine Gr (Bz (α:=Pt) (xs:=es) Bh rfl (Bf hl)) (Gm rfl (Af (Ax (Bx (σ:=Nat) (fun s=>([(1,I64 (u)),(2,I64 (v)),(13,va),(14,I64 (((es.length:Nat):Int))),(15,I64 (((s:Nat):Int)))]:Env)) (fun s=>blk b1 [I64 (nd),va] 48::I) (fun s=>(s≤es.length)∧(∀j,j<s→at_ es (j:Int)≠edgeP u v)) (fun s=>es.length - s) (0) (show ((0:Nat)≤es.length)∧(∀j,j<(0:Nat)→at_ es (j:Int)≠edgeP u v) from ⟨om,all_zero⟩) (Ac rfl (Ac rfl (Ac rfl (Ac rfl (Ac Cb Bq))))) (show Fit κ _ (blk b1 [I64 (nd),va] 48::I) from Ay) ?_))))
  rintro k hp
  obtain ⟨hk,hn⟩:=hp
  refine Ah (Gr (Bc rfl rfl) (Af (Ao (A9 rfl (fun c16=>?_) (fun c16=>?_)))))
  ·refine A0 (Ai (Ao (Ax (Ah (Gm rfl (Gr (A8 (α:=Pt) (xs:=es) Bh ty135 rfl rfl (Bf hl) om om) (Gr (B0 (α:=Pt) (xs:=es) ty135 rfl (Bf hl) om om) (Ge1 (A5 ty135 rfl) fun b2=>Ga rfl (Ge0 (B1 ty135) ?_)))))))))
   refine Af (Ao (Bo mixed (Bu (blk b2 [I64 ((at_ es (k:Int)).u),I64 ((at_ es (k:Int)).v)] 135::blk b1 [I64 (nd),va] 48::I) 5 (Dr 0 rfl (Bm (vs:=[_,_]) ty135) ?_))))
   refine Dr 1 rfl (Ad rfl) (Dr 2 rfl (Ad rfl) (Ds1 3 (Sc0 rfl (Am call119 rfl rfl (Edge03_ok u v)) ?_)))
   refine Dr 4 rfl (Runs.eqlT (α:=Pt) (a:=(at_ es (k:Int))) (b:=(edgeP u v)) eqt135 rfl rfl) (Dz (Ai (As (S7 24 7 1 2 13 14 15 rfl rfl rfl rfl rfl rfl rfl) (A9 rfl (fun c24=>?_) (fun c24=>?_)))))
   ·exact Ah (Gm rfl (Ga rfl (Af (A2 (Ar (Al (Al (Ar (Al (A7 rfl rfl (I) A4 ⟨_,rfl,.inl ⟨Classical.not_not.1 c11,k,rfl,by omega,c24⟩,rfl⟩))))))))))
   ·exact A0 (Aj (Ai (Aw (Gr (Rad rfl rfl) (Gm rfl (Bj (B6 ((k+1)) ⟨om,(Ei hn c24)⟩)))))))
  ·refine Bt (Ak (Ak (A6 (Ai (Ah (Ga rfl (Af (A2 ?_))))))))
   have hm:edgeP u v∉es:=not_mem_at hn om
   exact A7 rfl rfl (I) A4 ⟨_,rfl,.inr ⟨rfl,.inr hm⟩,rfl⟩
theorem Induced03_ok{nd:Int}{va vb:Value}{es:List Pt}{set:List Int}(hl:Sl κ I va es)(hs:Sl κ I vb set)(hb:es.length≤1000000) :
    CallS Tryz.prog κ 207 [.agg #[I64 (nd),va],vb] I (fun r J=>∃a c,r = .tuple #[.agg #[I64 (indN nd es),.slice a (indG nd es set).length c],I64 (checkG nd es)]∧J=vc 135 (.slice a (indG nd es set).length c) (indG nd es set)::I):=by
 refine B4 hl.le fun hmax=>?_
 refine Ce2 Tryz.func207 rfl rfl ?_
 refine Ah (Ge1 (Bb (cs:=[_,_]) rfl rfl rfl) fun b1=>Ge1 (A5 ty48 rfl) fun b2=>Ga rfl (Af (Ao (Ah (Gl2 ty48 ?_)))))
 refine G.e (Am call30 rfl rfl (Check03G_ok (nd:=nd) (Bf hl))) ?_
 rintro _ _ ⟨_,_,⟨rfl,rfl⟩,rfl,rfl⟩
 refine Ga rfl (Af (Ah (Gm rfl (Gr (Bv rfl rfl) (Af (A9 rfl (fun c13=>?_) (fun c13=>?_)))))))
 ·refine Ah (Gr (Be (cells:=[_,_]) ty48 Tryz.underlying48 pl48 rfl rfl) (Gm rfl (Ge0 (B1 ty48) ?_)))
  refine Ga rfl (Af (A2 (Al ?_)))
  have hX:(indG nd es set)=[]:=if_pos c13
  have hN:indN nd es=0:=if_pos c13
  exact Ct rfl ty48 rfl rfl mm rfl (vc 135 (.slice none (indG nd es set).length 0) (indG nd es set)::I) (by rw [hX];exact Cm (show Fit κ _ I from A4) (B3 (α:=Pt) _ _)) ⟨none,0,by rw [hX,hN];rfl,rfl⟩
 ·refine A0 (Ai (Ah (Gf fld48_0 rfl (Gl ty3 ?_))))
  refine Gr (Be (cells:=[_,_]) ty48 Tryz.underlying48 pl48 rfl rfl) (Ge1 (A5 ty48 rfl) fun b3=>Ge0 (B1 ty48) ?_)
  refine Af (As (S4 7 4 2 1 rfl rfl rfl rfl) (Ao (Ah (Gf fld48_1 rfl (Gl ty46 ?_)))))
  refine Gr (Bz (α:=Pt) (xs:=es) Bh rfl (Bf hl)) (Gm rfl (Af (Ax (Bx (σ:=Nat×(Option Addr)×Nat×(List Pt)) (fun s=>([(1,vb),(4,.pointer (some ⟨b2,0,none⟩)),(7,.pointer (some ⟨b3,0,none⟩)),(20,va),(21,I64 (((es.length:Nat):Int))),(22,I64 (((s.1:Nat):Int)))]:Env)) (fun s=>vc 135 (.slice s.2.1 s.2.2.2.length s.2.2.1) (s.2.2.2)::blk b3 [I64 (nd),.slice s.2.1 s.2.2.2.length s.2.2.1] 48::blk b2 [I64 (0),.slice none 0 0] 48::blk b1 [I64 (nd),va] 48::I) (fun s=>(s.1≤es.length)∧(s.2.2.2=(es.take s.1).filter fun e=>decide (e.u∈set∧e.v∈set))) (fun s=>es.length - s.1) (0,none,0,[]) (show ((0:Nat)≤es.length)∧(([]:List Pt)=(es.take (0:Nat)).filter fun e=>decide (e.u∈set∧e.v∈set)) from ⟨om,rfl⟩) (Ac rfl (Ac rfl (Ac rfl (Ac rfl (Ac rfl (Ac Cb Bq)))))) (show Fit κ _ (vc 135 (.slice (none) ([]).length (0)) (([]))::blk b3 [I64 (nd),.slice (none) ([]).length (0)] 48::blk b2 [I64 (0),.slice none 0 0] 48::blk b1 [I64 (nd),va] 48::I) from (B3 _ _)) ?_))))
  rintro ⟨k,a,c,out⟩ hp
  dsimp only at hp ⊢
  obtain ⟨hk,ho⟩:=hp
  have hol:out.length≤es.length:=by rw [ho];refine Nat.le_trans (List.length_filter_le _ _) ?_;simp only [List.length_take];omega
  refine Ah (Gr (Bc rfl rfl) (Af (Ao (A9 rfl (fun c23=>?_) (fun c23=>?_)))))
  ·refine A0 (Ai (Ao (Ax (Ah (Gr (A8 (α:=Pt) (xs:=es) Bh ty135 rfl rfl (Bf hl) om om) (Gr (B0 (α:=Pt) (xs:=es) ty135 rfl (Bf hl) om om) (Ge1 (A5 ty135 rfl) fun b4=>Ge0 (B1 ty135) ?_)))))))
   refine Af (Ah (Gm rfl (Gf fld135_0 rfl (Gl ty3 ?_))))
   refine Gc0 (Am call72 rfl rfl (RHas_ok (Bf hs) ((at_ es (k:Int)).u))) ?_
   refine Gm rfl (Bi (d:=30) rfl (fun g30=>?_) (fun g30=>?_))
   ·refine Gro (Ad rfl) (Gro (Aa fld135_1 rfl) (Gro (Au ty3) ?_))
    refine Eu (Cv rfl rfl rfl) (Am call72 rfl rfl (RHas_ok (Bf hs) ((at_ es (k:Int)).v))) ?_
    rintro _ _ ⟨_,_,⟨rfl,rfl⟩,rfl,rfl⟩
    refine Gr (Ap rfl rfl) (Af (As (S8 35 9 1 4 7 20 21 22 rfl rfl rfl rfl rfl rfl rfl rfl) (A9 rfl (fun c35=>?_) (fun c35=>?_))))
    ·refine Aw (Gf fld48_1 rfl (Gl ty46 ?_))
     refine Gl2 ty135 ?_
     refine Ge1 (B9 (α:=Pt) (cs:=[_,_]) (xs:=[⟨(at_ es (k:Int)).u,(at_ es (k:Int)).v⟩]) Bh ty135 rfl rfl dc dc rfl rfl rfl rfl) fun ad5=>?_
     refine Ge2 (Ca (α:=Pt) (e:=135) (xs:=out) (ys:=([⟨(at_ es (k:Int)).u,(at_ es (k:Int)).v⟩]:List Pt)) Bh ty135 rfl rfl rfl mm Br lcn dc rfl (fun _ _=>am)) fun ad6 cp7=>?_
     refine Gf fld48_1 rfl (Ge0 (Ek ty46) ?_)
     exact Bj (Aj (Ai (As (S6 1 4 7 20 21 22 rfl rfl rfl rfl rfl rfl) (Aw (Gr (Rad rfl rfl) (Gm rfl (Bj (B6 ((k+1),(ad6),(cp7),(out++([⟨(at_ es (k:Int)).u,(at_ es (k:Int)).v⟩]:List Pt))) (by dsimp only;exact ⟨om,(by first|rw [flt_yes om (decide_eq_true ⟨by assumption,by assumption⟩),←ho]|rw [flt_no om (decide_eq_false (fun h=>by first|exact absurd h.1 asm|exact absurd h.2 asm)),←ho])⟩)))))))))
    ·exact A0 (Aj (Ai (Aw (Gr (Rad rfl rfl) (Gm rfl (Bj (B6 ((k+1),(a),(c),(out)) (by dsimp only;exact ⟨om,(by first|rw [flt_yes om (decide_eq_true ⟨by assumption,by assumption⟩),←ho]|rw [flt_no om (decide_eq_false (fun h=>by first|exact absurd h.1 asm|exact absurd h.2 asm)),←ho])⟩))))))))
   ·exact Gpo (Gpo (Gpo (Gpo (Gr (Av rfl rfl) (Af (As (S8 35 9 1 4 7 20 21 22 rfl rfl rfl rfl rfl rfl rfl rfl) (Cx rfl (A0 (Aj (Ai (Aw (Gr (Rad rfl rfl) (Gm rfl (Bj (B6 ((k+1),(a),(c),(out)) (by dsimp only;exact ⟨om,(by first|rw [flt_yes om (decide_eq_true ⟨by assumption,by assumption⟩),←ho]|rw [flt_no om (decide_eq_false (fun h=>by first|exact absurd h.1 asm|exact absurd h.2 asm)),←ho])⟩))))))))))))))))
  ·refine Bt (Ak (Ak (A6 (Ai (Ah (Gl2 ty48 ?_))))))
   refine Ge0 (B1 ty48) ?_
   refine Ga rfl (Af (A2 ?_))
   have ho2:out=es.filter fun e=>decide (e.u∈set∧e.v∈set):=by rw [ho,List.take_of_length_le om]
   have hX:indG nd es set=out:=by rw [indG_ref set c13,ho2]
   have hN:indN nd es=nd:=if_neg c13
   have hz:checkG nd es=0:=Classical.not_not.1 c13
   exact Ct rfl ty48 rfl rfl mm rfl (vc 135 (.slice a (indG nd es set).length c) (indG nd es set)::I) (by rw [hX];exact Ay) ⟨a,c,by first|(rw [hX,hN,hz];done)|(rw [hX,hN,hz];rfl),rfl⟩
theorem Inside03_ok{nd:Int}{va vb:Value}{es:List Pt}{set:List Int}(hl:Sl κ I va es)(hs:Sl κ I vb set)(hb:es.length≤1000000) :
    CallS Tryz.prog κ 136 [.agg #[I64 (nd),va],vb] I (fun r J=>r=I64 ((insideN nd es set:Nat):Int)∧I=J):=by
 refine Ce2 Tryz.func136 rfl rfl ?_
 refine Ah (Ge1 (Bb (cs:=[_,_]) rfl rfl rfl) fun b1=>Ga rfl (Af (Ah (Gl2 ty48 ?_))))
 refine Gm rfl (Gc2 (Am call207 rfl rfl (Induced03_ok (nd:=nd) (Bf hl) (Bf hs) om)) fun ad2 cp3=>?_)
 refine Gm rfl (Gr (Az rfl rfl) (Gr (Az rfl rfl) (Ge1 (A5 ty48 rfl) fun b4=>Ge0 (B1 ty48) ?_)))
 refine Ga rfl (Af (Ah (Gf fld48_1 rfl (Gl ty46 ?_))))
 exact Gr (Bw Bh rfl) (Ga rfl (Af (As (S1 4 rfl) (A2 (A7 rfl rfl (I) A4 ⟨by rw [indG_len],rfl⟩)))))
theorem Density03_ok{nd:Int}{va vb:Value}{es:List Pt}{set:List Int}(hl:Sl κ I va es)(hs:Sl κ I vb set)(hb:es.length≤1000000)(hsb:set.length≤1000000) :
    CallS Tryz.prog κ 73 [.agg #[I64 (nd),va],vb] I (fun r J=>r = .tuple #[.agg #[I64 (densG nd es set).num,I64 (densG nd es set).den],I64 (checkG nd es)]∧I=J):=by
 refine Ce2 Tryz.func73 rfl rfl ?_
 refine Ah (Ge1 (Bb (cs:=[_,_]) rfl rfl rfl) fun b1=>Ge1 (A5 ty40 rfl) fun b2=>Ga rfl (Af (Ao (Ah (Gl2 ty48 ?_)))))
 refine G.e (Am call30 rfl rfl (Check03G_ok (nd:=nd) (Bf hl))) ?_
 rintro _ _ ⟨_,_,⟨rfl,rfl⟩,rfl,rfl⟩
 refine Ga rfl (Af (Ah (Gm rfl (Gr (Bv rfl rfl) (Af (A9 rfl (fun c11=>?_) (fun c11=>?_)))))))
 ·refine Ah (Gr (Be (cells:=[_,_]) ty40 Cj pl40 rfl rfl) (Gm rfl (Ge0 (B1 ty40) ?_)))
  refine Ga rfl (Af (A2 (Al ?_)))
  have hX:(densG nd es set)=⟨0,0⟩:=if_pos c11
  exact Ct rfl ty40 rfl rfl mm rfl (I) A4 ⟨by first|(rw [hX];done)|(rw [hX];rfl),rfl⟩
 ·refine A0 (Ai (Ah (Gm rfl (Gf fld48_0 rfl (Gl ty3 ?_)))))
  refine Gc2 (Am call135 rfl rfl (Range_ok nd)) fun ad3 cp4=>?_
  refine G.e (Am call134 rfl rfl (Meet_ok (Bf hs) Br om)) ?_
  rintro _ _ ⟨_,_,⟨ad5,cp6,rfl,rfl⟩,rfl,rfl⟩
  refine Gr (Bw Ab rfl) (Ga rfl ?_)
  have hml:(meetL set (rangeI nd)).length≤set.length:=by unfold meetL;exact Nat.le_trans (List.length_filter_le _ _) (ofL_len _)
  refine Af (As (S4 7 4 2 1 rfl rfl rfl rfl) (Ao (Ah (Gm rfl (Gr (Bs rfl rfl) (Af (A9 rfl (fun c21=>?_) (fun c21=>?_))))))))
  ·refine Ah (Gr (Be (cells:=[_,_]) ty40 Cj pl40 rfl rfl) (Ge0 (B1 ty40) ?_))
   refine Ga rfl (Af (A2 (Al ?_)))
   have hz:checkG nd es=0:=Classical.not_not.1 c11
   have hX:(densG nd es set)=⟨0,1⟩:=by unfold densG;rw [if_neg c11,if_pos om]
   exact Ct rfl ty40 rfl rfl mm rfl (I) A4 ⟨by first|(rw [hX,hz];done)|(rw [hX,hz];rfl),rfl⟩
  ·refine A0 (Ai (Ah (Gl2 ty48 ?_)))
   refine Gm rfl (Gc0 (Am call136 rfl rfl (Inside03_ok (nd:=nd) (Bf hl) (Bf hs) om)) ?_)
   have hin25:=insideN_le nd es set
   refine Gm rfl (Gc0 (Am call128 rfl rfl (RatOf_ok ((insideN nd es set:Nat):Int) (((meetL set (rangeI nd)).length:Nat):Int) om om)) ?_)
   refine Ge0 (B1 ty40) ?_
   refine Ga rfl (Af (A2 ?_))
   have hz:checkG nd es=0:=Classical.not_not.1 c11
   have hX:(densG nd es set)=mkF ((insideN nd es set:Nat):Int) ((((meetL set (rangeI nd)).length:Nat)):Int):=by unfold densG;rw [if_neg c11,if_neg om]
   exact Ct rfl ty40 rfl rfl mm rfl (I) A4 ⟨by first|(rw [hX,hz];done)|(rw [hX,hz];rfl),rfl⟩
variable {κ:Ctx}{I:List Item}
structure FrV (x:Fr):Prop where
 n0:0≤x.num
 n1:x.num≤1073741824
 d0:1≤x.den
 d1:x.den≤1073741824
 cop:gcdI x.num x.den=1
theorem mkF_val{a b:Int}(h0:0≤a)(h1:a≤1073741824)(h2:0<b)(h3:b≤1073741824):FrV (mkF a b):=by
 have hn:=mkF_num h0 h2
 have hd:=mkF_den (a:=a) h2
 refine ⟨hn.1,by omega,hd.1,by omega,?_⟩
 obtain ⟨m,rfl⟩:=Int.eq_ofNat_of_zero_le h0
 obtain ⟨n,rfl⟩:=Int.eq_ofNat_of_zero_le (show 0≤b by omega)
 have hg:0<m.gcd n:=Nat.gcd_pos_of_pos_right _ om
 have hc:=Nat.coprime_div_gcd_div_gcd hg
 unfold mkF gcdI
 simp only [Int.toNat_natCast,Int.ofNat_eq_natCast,←Int.natCast_ediv]
 rw [hc.gcd_eq_one];rfl
def cmpF(x y:Fr):Int:=if x.num*y.den<y.num*x.den then -1 else if y.num*x.den<x.num*y.den then 1 else 0
def sgnI(n:Int):Int:=if n<0 then -1 else if 0<n then 1 else 0
theorem sgn_bd(n:Int) : -1≤sgnI n∧sgnI n≤1:=by unfold sgnI;split<;>(try split)<;>omega
theorem mul_small{x y:Int}(hx:0≤x∧x≤1073741824)(hy:0≤y∧y≤1073741824):0≤x*y∧x*y≤1152921504606846976:=by
 refine ⟨Int.mul_nonneg hx.1 hy.1,?_⟩
 have h1:=Int.mul_le_mul hx.2 hy.2 hy.1 dc
 omega
theorem FrV.mul{x y:Fr}(hx:FrV x)(hy:FrV y):(0≤x.num*y.den∧x.num*y.den≤1152921504606846976)∧(0<x.num→0<x.num*y.den):=by
 have h1:=hx.n0;have h2:=hx.n1;have h3:=hy.d0;have h4:=hy.d1
 exact ⟨mul_small ⟨h1,h2⟩ ⟨by omega,h4⟩,fun h=>Int.mul_pos h om⟩
theorem Mul64_ok(x y:Int)(hx:0≤x∧x≤1073741824)(hy:0≤y∧y≤1073741824) :
    CallS Tryz.prog κ 173 [.int .u64 (x),.int .u64 (y)] I (fun r J=>r = .tuple #[.int .u64 0,.int .u64 (x*y)]∧I=J):=by
 have hxy:=mul_small hx hy
 refine Ce2 Tryz.func173 rfl rfl ?_
 exact Ah (Ga rfl (Ga rfl (Af (Ah (Gm rfl (Gr (Runs.lowU (m:=x) (r:=x) rfl rfl om om om) (Ga rfl (Af (Ah (Gm rfl (Gr (Runs.shr32 (m:=x) (r:=0) rfl rfl om) (Ga rfl (Af (Ah (Gm rfl (Gr (Runs.lowU (m:=y) (r:=y) rfl rfl om om om) (Ga rfl (Af (Ah (Gm rfl (Gr (Runs.shr32 (m:=y) (r:=0) rfl rfl om) (Ga rfl (Af (As (S6 9 8 7 6 0 1 rfl rfl rfl rfl rfl rfl) (Ah (Gm rfl (Gm rfl (Gr (Runs.mulU (m:=x) (n:=y) (r:=x*y) rfl rfl rfl om om) (Ga rfl (Af (Ah (Gm rfl (Gm rfl (Gr (Runs.mulU (m:=0) (n:=y) (r:=0) rfl rfl (Int.zero_mul _) om om) (Gm rfl (Gr (Runs.shr32 (m:=x*y) (r:=x*y / 4294967296) rfl rfl om) (Gr (Runs.addU (m:=0) (n:=x*y / 4294967296) (r:=x*y / 4294967296) rfl rfl om om om) (Ga rfl (Af (As (S6 11 9 7 6 0 1 rfl rfl rfl rfl rfl rfl) (Ah (Gm rfl (Gr (Runs.lowU (m:=x*y / 4294967296) (r:=x*y / 4294967296) rfl rfl om om om) (Ga rfl (Af (Ah (Gm rfl (Gr (Runs.shr32 (m:=x*y / 4294967296) (r:=0) rfl rfl om) (Ga rfl (Af (Ah (Gm rfl (Gm rfl (Gm rfl (Gr (Runs.mulU (m:=x) (n:=0) (r:=0) rfl rfl (Int.mul_zero _) om om) (Gr (Runs.addU (m:=x*y / 4294967296) (n:=0) (r:=x*y / 4294967296) rfl rfl om om om) (Ga rfl (Af (As (S6 12 13 9 7 0 1 rfl rfl rfl rfl rfl rfl) (Ah (Gm rfl (Gm rfl (Gr (Runs.mulU (m:=0) (n:=0) (r:=0) rfl rfl (Int.zero_mul _) om om) (Gm rfl (Gr (Runs.addU (m:=0) (n:=0) (r:=0) rfl rfl om om om) (Gm rfl (Gr (Runs.shr32 (m:=x*y / 4294967296) (r:=0) rfl rfl om) (Gr (Runs.addU (m:=0) (n:=0) (r:=0) rfl rfl om om om) (Ga rfl (Af (As (S3 4 0 1 rfl rfl rfl) (Ah (Gm rfl (Gm rfl (Gr (Runs.mulU (m:=x) (n:=y) (r:=x*y) rfl rfl rfl om om) (Ga rfl (Af (A2 (C9 rfl rfl rfl (I) A4 ⟨rfl,rfl⟩)))))))))))))))))))))))))))))))))))))))))))))))))))))))))))))))))))))))))))))))
theorem Sign_ok(n:Int) :
    CallS Tryz.prog κ 172 [I64 (n)] I (fun r J=>r=I64 (sgnI n)∧I=J):=by
 refine Ce1 Tryz.func172 rfl rfl ?_
 refine Ah (Ga rfl (Af (Ao (Ax (Ah (Gm rfl (Gr (Bc rfl rfl) (Ga rfl (Af (A9 rfl (fun c3=>?_) (fun c3=>?_)))))))))))
 ·exact Ah (Ga rfl (Af (A2 (Ar (Al (A7 rfl rfl (I) A4 ⟨by unfold sgnI;first|rw [if_pos c3]|rw [if_neg c3,if_pos c6]|rw [if_neg c3,if_neg c6],rfl⟩))))))
 ·refine Ah (Gm rfl (Gr (B5 rfl rfl) (Ga rfl (Af (A9 rfl (fun c6=>?_) (fun c6=>?_))))))
  ·exact Ah (Ga rfl (Af (A2 (Ar (Al (A7 rfl rfl (I) A4 ⟨by unfold sgnI;first|rw [if_pos c3]|rw [if_neg c3,if_pos c6]|rw [if_neg c3,if_neg c6],rfl⟩))))))
  ·exact A0 (Aj (Ai (Ah (Ga rfl (Af (A2 (A7 rfl rfl (I) A4 ⟨by unfold sgnI;first|rw [if_pos c3]|rw [if_neg c3,if_pos c6]|rw [if_neg c3,if_neg c6],rfl⟩)))))))
theorem RatValid_ok(x:Fr)(hx:FrV x) :
    CallS Tryz.prog κ 89 [.agg #[I64 (x.num),I64 (x.den)]] I (fun r J=>r = .bool true∧I=J):=by
 have hn0x:=hx.n0
 have hn1x:=hx.n1
 have hd0x:=hx.d0
 have hd1x:=hx.d1
 refine Ce1 Tryz.func89 rfl rfl ?_
 refine Ah (Ge1 (Bb (cs:=[_,_]) rfl rfl rfl) fun b1=>Ga rfl (Af (Ah (Gf fld40_0 rfl (Gl ty3 ?_)))))
 refine G.e (Am call157 rfl rfl (RWithin_ok x.num 1152921504606846976 om)) ?_
 rintro _ _ ⟨_,_,⟨rfl,rfl⟩,rfl,rfl⟩
 refine Gm rfl (Bi (d:=6) rfl (fun g6=>?_) (fun g6=>?_))
 ·refine Gro (Aa fld40_1 rfl) (Gro (Au ty3) ?_)
  refine Gro (Cg rfl rfl) (Gr (Ap rfl rfl) (Gm rfl (Bi (d:=11) rfl (fun g11=>?_) (fun g11=>?_))))
  ·refine Gro (Aa fld40_1 rfl) (Gro (Au ty3) ?_)
   refine Gro (Dw rfl rfl) (Gr (Ap rfl rfl) (Gm rfl (Bi (d:=16) rfl (fun g16=>?_) (fun g16=>?_))))
   ·refine Gro (Aa fld40_0 rfl) (Gro (Au ty3) ?_)
    refine Gro (Aa fld40_0 rfl) (Gro (Au ty3) ?_)
    refine Gro (Runs.neg rfl (by unfold InR;omega)) (Gro (Et rfl rfl) ?_)
    have hmx22:(if x.num < -(x.num) then -(x.num) else x.num)=x.num:=by rw [if_neg om]
    rw [hmx22]
    refine Gro (Aa fld40_1 rfl) (Gro (Au ty3) ?_)
    refine Eu (Cv rfl rfl rfl) (Am call158 rfl rfl (Common_ok x.num x.den om om)) ?_
    rintro _ _ ⟨_,_,⟨rfl,rfl⟩,rfl,rfl⟩
    exact Gro (Bs rfl rfl) (Gr (Ap rfl rfl) (Ga rfl (Af (As (S1 2 rfl) (A2 (A7 rfl rfl (I) A4 ⟨by rw [decide_eq_true hx.cop],rfl⟩))))))
   ·exact absurd om g16
  ·exact absurd om g11
 ·exact absurd om g6
set_option maxHeartbeats 1000000 in
theorem RatCmp_ok(x y:Fr)(hx:FrV x)(hy:FrV y) :
    CallS Tryz.prog κ 101 [.agg #[I64 (x.num),I64 (x.den)],.agg #[I64 (y.num),I64 (y.den)]] I (fun r J=>r=I64 (cmpF x y)∧I=J):=by
 have hn0x:=hx.n0
 have hn1x:=hx.n1
 have hd0x:=hx.d0
 have hd1x:=hx.d1
 have hn0y:=hy.n0
 have hn1y:=hy.n1
 have hd0y:=hy.d0
 have hd1y:=hy.d1
 have hb1:=sgn_bd x.num
 have hb2:=sgn_bd y.num
 have hm1:=hx.mul hy
 have hm2:=hy.mul hx
 have hz1:x.num=0→x.num*y.den=0:=fun h=>by rw [h,Int.zero_mul]
 have hz2:y.num=0→y.num*x.den=0:=fun h=>by rw [h,Int.zero_mul]
 refine Ce2 Tryz.func101 rfl rfl ?_
 refine Ah (Ge1 (Bb (cs:=[_,_]) rfl rfl rfl) fun b1=>Ge1 (Bb (cs:=[_,_]) rfl rfl rfl) fun b2=>Ga rfl (Af (Ao (Ah (Gl2 ty40 ?_)))))
 refine Gc0 (Am call89 rfl rfl (RatValid_ok x asm)) ?_
 refine Gr (Cd rfl) (Gm rfl (Gro (Bm (vs:=[_,_]) ty40) ?_))
 refine Eu (Cv rfl rfl rfl) (Am call89 rfl rfl (RatValid_ok y asm)) ?_
 rintro _ _ ⟨_,_,⟨rfl,rfl⟩,rfl,rfl⟩
 refine Gro (Cd rfl) (Gr (Av rfl rfl) (Af (Cx rfl (A0 (Ai (Ah (Gf fld40_0 rfl (Gl ty3 ?_))))))))
 refine Gc0 (Am call172 rfl rfl (Sign_ok x.num)) ?_
 refine Ga rfl (Af (As (S3 5 3 2 rfl rfl rfl) (Ao (Ah (Gf fld40_0 rfl (Gl ty3 ?_))))))
 refine Gc0 (Am call172 rfl rfl (Sign_ok y.num)) ?_
 refine Ga rfl (Af (Ah (Gm rfl (Gm rfl (Gr (Bv rfl rfl) (Gm rfl (Bi (d:=28) rfl (fun g28=>?_) (fun g28=>?_))))))))
 ·refine Gpo (Gpo (Gr (Ap rfl rfl) (Af (As (S5 31 6 5 3 2 rfl rfl rfl rfl rfl) (Cl rfl (Ah (Gm rfl (Gm rfl (Gr (Rsu rfl rfl) (Gc0 (Am call172 rfl rfl (Sign_ok ((sgnI x.num) - (sgnI y.num)))) ?_))))))))))
  refine Ga rfl (Af (A2 (Al ?_)))
  have hsx:sgnI x.num=if x.num<0 then -1 else if 0<x.num then 1 else 0:=rfl
  have hsy:sgnI y.num=if y.num<0 then -1 else if 0<y.num then 1 else 0:=rfl
  exact A7 rfl rfl (I) A4 ⟨congrArg I64 (by first|(have hss:sgnI (sgnI x.num - sgnI y.num)=if sgnI x.num - sgnI y.num<0 then -1 else if 0<sgnI x.num - sgnI y.num then 1 else 0:=rfl;unfold cmpF;rw [hss];repeat (first|omega|split))|(unfold cmpF;repeat (first|omega|split))),rfl⟩
 ·refine Gro (Ad rfl) (Gro (Bs rfl rfl) (Gr (Av rfl rfl) (Af (As (S5 31 6 5 3 2 rfl rfl rfl rfl rfl) (A9 rfl (fun c31=>?_) (fun c31=>?_))))))
  ·refine Ah (Gm rfl (Gm rfl (Gr (Rsu rfl rfl) (Gc0 (Am call172 rfl rfl (Sign_ok ((sgnI x.num) - (sgnI y.num)))) ?_))))
   refine Ga rfl (Af (A2 (Al ?_)))
   have hsx:sgnI x.num=if x.num<0 then -1 else if 0<x.num then 1 else 0:=rfl
   have hsy:sgnI y.num=if y.num<0 then -1 else if 0<y.num then 1 else 0:=rfl
   exact A7 rfl rfl (I) A4 ⟨congrArg I64 (by first|(have hss:sgnI (sgnI x.num - sgnI y.num)=if sgnI x.num - sgnI y.num<0 then -1 else if 0<sgnI x.num - sgnI y.num then 1 else 0:=rfl;unfold cmpF;rw [hss];repeat (first|omega|split))|(unfold cmpF;repeat (first|omega|split))),rfl⟩
  ·refine A0 (Ai (Ah (Gf fld40_0 rfl (Gl ty3 ?_))))
   refine Gf fld40_0 rfl (Gl ty3 ?_)
   refine Gr (Runs.neg rfl (by unfold InR;omega)) (Gr (Et rfl rfl) ?_)
   have hmx42:(if x.num < -(x.num) then -(x.num) else x.num)=x.num:=by rw [if_neg om]
   rw [hmx42]
   refine Gr (D4 Bl Cq rfl om) (Gf fld40_1 rfl (Gl ty3 ?_))
   refine Gr (D4 Bl Cq rfl om) (G.e (Am call173 rfl rfl (Mul64_ok x.num y.den om om)) ?_)
   rintro _ _ ⟨_,_,⟨rfl,rfl⟩,rfl,rfl⟩
   refine Gm rfl (Gr (Az rfl rfl) (Gr (Az rfl rfl) (Ga rfl (Ga rfl (Af (As (S5 8 7 5 3 2 rfl rfl rfl rfl rfl) (Ah (Gf fld40_0 rfl (Gl ty3 ?_)))))))))
   refine Gf fld40_0 rfl (Gl ty3 ?_)
   refine Gr (Runs.neg rfl (by unfold InR;omega)) (Gr (Et rfl rfl) ?_)
   have hmx56:(if y.num < -(y.num) then -(y.num) else y.num)=y.num:=by rw [if_neg om]
   rw [hmx56]
   refine Gr (D4 Bl Cq rfl om) (Gf fld40_1 rfl (Gl ty3 ?_))
   refine Gr (D4 Bl Cq rfl om) (G.e (Am call173 rfl rfl (Mul64_ok y.num x.den om om)) ?_)
   rintro _ _ ⟨_,_,⟨rfl,rfl⟩,rfl,rfl⟩
   refine Gm rfl (Gr (Az rfl rfl) (Gr (Az rfl rfl) (Ga rfl (Ga rfl (Af (As (S5 10 9 8 7 5 rfl rfl rfl rfl rfl) (Ao (Ax (Ah (Gm rfl (Gm rfl (Gr (Bs rfl rfl) (Gm rfl (Bi (d:=68) rfl (fun g68=>?_) (fun g68=>?_)))))))))))))))
   ·refine Gro (Ad rfl) (Gro (Ad rfl) (Gro (Bs rfl rfl) (Gr (Ap rfl rfl) (Ga rfl (Af (As (S6 64 10 9 8 7 5 rfl rfl rfl rfl rfl rfl) (A9 rfl (fun c64=>?_) (fun c64=>?_))))))))
    ·refine Ah (Ga rfl (Af (A2 (Ar (Al ?_)))))
     have hsx:sgnI x.num=if x.num<0 then -1 else if 0<x.num then 1 else 0:=rfl
     have hsy:sgnI y.num=if y.num<0 then -1 else if 0<y.num then 1 else 0:=rfl
     exact A7 rfl rfl (I) A4 ⟨congrArg I64 (by first|(have hss:sgnI (sgnI x.num - sgnI y.num)=if sgnI x.num - sgnI y.num<0 then -1 else if 0<sgnI x.num - sgnI y.num then 1 else 0:=rfl;unfold cmpF;rw [hss];repeat (first|omega|split))|(unfold cmpF;repeat (first|omega|split))),rfl⟩
    ·refine Ah (Gm rfl (Gm rfl (Gr (Bc rfl rfl) (Gm rfl (Bi (d:=77) rfl (fun g77=>?_) (fun g77=>?_))))))
     ·exact absurd g77 dc
     ·refine Gro (Ad rfl) (Gro (Ad rfl) (Gro (Bs rfl rfl) (Gro (Ad rfl) (Bi (d:=81) rfl (fun g81=>?_) (fun g81=>?_)))))
      ·refine Gro (Ad rfl) (Gro (Ad rfl) (Gro (Bc rfl rfl) (Gro (Ap rfl rfl) (Gr (Av rfl rfl) (Ga rfl (Af (As (S2 73 5 rfl rfl) (A9 rfl (fun c73=>?_) (fun c73=>?_)))))))))
       ·refine Ah (Gm rfl (Gr (Runs.neg rfl (by unfold InR;omega)) (Ga rfl (Af (A2 (Ar (Al ?_)))))))
        have hsx:sgnI x.num=if x.num<0 then -1 else if 0<x.num then 1 else 0:=rfl
        have hsy:sgnI y.num=if y.num<0 then -1 else if 0<y.num then 1 else 0:=rfl
        exact A7 rfl rfl (I) A4 ⟨congrArg I64 (by first|(have hss:sgnI (sgnI x.num - sgnI y.num)=if sgnI x.num - sgnI y.num<0 then -1 else if 0<sgnI x.num - sgnI y.num then 1 else 0:=rfl;unfold cmpF;rw [hss];repeat (first|omega|split))|(unfold cmpF;repeat (first|omega|split))),rfl⟩
       ·refine A0 (Aj (Ai (Ah (Gm rfl (Ga rfl (Af (A2 ?_)))))))
        have hsx:sgnI x.num=if x.num<0 then -1 else if 0<x.num then 1 else 0:=rfl
        have hsy:sgnI y.num=if y.num<0 then -1 else if 0<y.num then 1 else 0:=rfl
        exact A7 rfl rfl (I) A4 ⟨congrArg I64 (by first|(have hss:sgnI (sgnI x.num - sgnI y.num)=if sgnI x.num - sgnI y.num<0 then -1 else if 0<sgnI x.num - sgnI y.num then 1 else 0:=rfl;unfold cmpF;rw [hss];repeat (first|omega|split))|(unfold cmpF;repeat (first|omega|split))),rfl⟩
      ·exact absurd rfl g81
   ·exact absurd rfl g68
theorem BestR.frv{nd N D:Int}{es:List Pt}{B:BitVec 64}(h:BestR nd es N D B)(hG:GrOk nd es):FrV ⟨N,D⟩:=by
 by_cases hn:nd=0
 ·obtain ⟨h1,h2,_⟩:=h.none (checkG_ok.2 hG) hn
  subst h1 h2
  exact ⟨by decide,by decide,by decide,by decide,by decide⟩
 ·obtain ⟨x,y,hx,hy,e⟩:=(h.some (checkG_ok.2 hG) hn).red
  rw [e]
  exact mkF_val hx.1 om om om
theorem cmpF_ge{x y:Fr}:0≤cmpF x y↔y.num*x.den≤x.num*y.den:=by unfold cmpF;repeat (first|omega|split)
def densQ(nd:Int)(es:List Pt)(num den:Int):Prop:=if nd=0 then num≤0 else ∃W,subN nd W∧W≠0#64∧num*cntB W≤den*insE W es
theorem BestR.holds{nd N D num den:Int}{es:List Pt}{B:BitVec 64}(h:BestR nd es N D B)(hG:GrOk nd es)(hf:FrV ⟨num,den⟩):0≤cmpF ⟨N,D⟩ ⟨num,den⟩↔densQ nd es num den:=by
 rw [cmpF_ge]
 unfold densQ
 by_cases hn:nd=0
 ·obtain ⟨h1,h2,_⟩:=h.none (checkG_ok.2 hG) hn
  subst h1 h2
  rw [if_pos hn]
  show num*1≤0*den↔_
  omega
 ·rw [if_neg hn]
  have hd:=h.some (checkG_ok.2 hG) hn
  exact hd.dens.reach hd.den.1 hf.d0
section
variable {nd kd wd mo tm:Int}{es:List Ev}{fst own:Bool}{j j1:Nat}
theorem all_le(hH:HistOk nd kd wd mo es){i k:Nat}(h:i≤k)(hk:k<(allE kd wd mo es).length):(at_ (allE kd wd mo es) (i:Int)).tm≤(at_ (allE kd wd mo es) (k:Int)).tm:=by
 by_cases e:i=k
 ·subst e;exact Int.le_refl _
 ·rw [D3 _ i om,D3 _ k hk]
  exact (List.pairwise_iff_getElem.1 hH.all_asc) i k om hk om
theorem mom_bef(hH:HistOk nd kd wd mo es)(hM:MomentX (allE kd wd mo es) fst j tm own j1):∀i:Nat,i<j1→(at_ (allE kd wd mo es) (i:Int)).tm≤tm:=fun i hi=>by
 by_cases h:i<j
 ·cases hf:fst with
  |true=>have:=(hM.first hf).2;omega
  |false=>
   obtain ⟨h1,h2⟩:=hM.next hf
   rw [h2];exact all_le hH om h1
 ·exact Int.le_of_eq (hM.same i om hi)
theorem mom_next(hH:HistOk nd kd wd mo es)(hM:MomentX (allE kd wd mo es) fst j tm own j1)(h:j1<(allE kd wd mo es).length):tm<(at_ (allE kd wd mo es) (j1:Int)).tm:=by
 have hne:=hM.stop h
 have hle:tm≤(at_ (allE kd wd mo es) (j1:Int)).tm:=by
  cases hf:fst with
  |true=>
   rw [(hM.first hf).1]
   exact (hH.allFit _ (Ck (xs:=allE kd wd mo es) (i:=(j1:Int)) om om)).tm.1
  |false=>
   obtain ⟨h1,h2⟩:=hM.next hf
   rw [h2];exact all_le hH (by have:=hM.le.1;omega) h
 omega
theorem mom_graph(hH:HistOk nd kd wd mo es)(hM:MomentX (allE kd wd mo es) fst j tm own j1):edgesK (linksL ((allE kd wd mo es).take j1))=atG kd wd mo es tm:=by
 unfold atG
 rw [atK_stop hM.le.2 (mom_bef hH hM) (mom_next hH hM)]
def FirstYes(kd wd mo:Int)(es:List Ev)(p:Int→Prop)(t:Int):Prop:=(∃e∈allE kd wd mo es,e.tm=t)∧p t∧∀e∈allE kd wd mo es,e.tm<t→¬p e.tm
def FirstP(kd wd mo:Int)(es:List Ev)(p:Int→Prop)(t:Int)(ok:Bool):Prop:=(ok=true∧FirstYes kd wd mo es p t)∨(ok=false∧t=0∧∀e∈allE kd wd mo es,¬p e.tm)
theorem fi_next{p:Int→Prop}(hM:MomentX (allE kd wd mo es) fst j tm own j1)(hq:∀i:Nat,i<j→¬p (at_ (allE kd wd mo es) (i:Int)).tm)(hn:own=true→¬p tm):∀i:Nat,i<j1→¬p (at_ (allE kd wd mo es) (i:Int)).tm:=fun i hi=>by
 by_cases h:i<j
 ·exact hq i h
 ·rw [hM.same i om hi]
  exact hn (by rw [hM.own,decide_eq_true om])
theorem fi_yes{p:Int→Prop}(hH:HistOk nd kd wd mo es)(hM:MomentX (allE kd wd mo es) fst j tm own j1)(hq:∀i:Nat,i<j→¬p (at_ (allE kd wd mo es) (i:Int)).tm)(ho:own=true)(hp:p tm):FirstYes kd wd mo es p tm:=by
 have hj:j<j1:=by have:=hM.own;rw [ho] at this;exact of_decide_eq_true this.symm
 have hl:=hM.le.2
 refine ⟨⟨_,Ck (xs:=allE kd wd mo es) (i:=(j:Int)) om om,hM.same j (Nat.le_refl _) hj⟩,hp,fun e he hlt=>?_⟩
 obtain ⟨i,hi,rfl⟩:=mem_at he
 by_cases h:i<j
 ·exact hq i h
 ·have h1:=all_le hH (i:=j) (k:=i) om hi
  rw [hM.same j (Nat.le_refl _) hj] at h1
  omega
theorem fi_no{p:Int→Prop}(hq:∀i:Nat,i<(allE kd wd mo es).length→¬p (at_ (allE kd wd mo es) (i:Int)).tm):∀e∈allE kd wd mo es,¬p e.tm:=fun e he=>by
 obtain ⟨i,hi,rfl⟩:=mem_at he
 exact hq i hi
end
def reachQ(nd kd wd mo:Int)(es:List Ev)(num den t:Int):Prop:=densQ nd (atG kd wd mo es t) num den
set_option maxHeartbeats 2000000 in
theorem AFirst_ok{κ:Ctx}{I:List Item}{nd kd wd mo num den:Int}{ea:Option Addr}{ec:Nat}{es:List Ev}(hl:Sl κ I (.slice ea es.length ec) es)(hH:HistOk nd kd wd mo es)(hlen:es.length≤19)(hf:FrV ⟨num,den⟩)(hT:TabRd κ I 0 tzCells) :
    CallS Tryz.prog κ 47 [I64 (nd),.slice ea es.length ec,.agg #[I64 (kd),I64 (wd),I64 (mo)],.agg #[I64 (num),I64 (den)]] I (fun r J=>∃tv ok,r = .tuple #[I64 tv,.bool ok,I64 0]∧FirstP kd wd mo es (reachQ nd kd wd mo es num den) tv ok∧I=J):=by
 refine CallS.enterM (L:=[(0,I64 (nd)),(1,.slice ea es.length ec),(2,.agg #[I64 (kd),I64 (wd),I64 (mo)]),(3,.agg #[I64 (num),I64 (den)])]) Tryz.func47 rfl rfl rfl rfl ?_
 refine Ah (Ge1 (Bb (cs:=[_,_,_]) rfl rfl rfl) fun b1=>Ge1 (Bb (cs:=[_,_]) rfl rfl rfl) fun b2=>Ge1 (A5 ty3 rfl) fun b3=>Ge1 (A5 ty4 rfl) fun b4=>Ge1 (A5 ty36 rfl) fun b5=>Af (Ao (Ah (Gm rfl (Gm rfl (Gl3 ty31 ?_))))))
 refine Gc0 (Am call97 rfl rfl (ACheck_ok (nd:=nd) (kd:=kd) (wd:=wd) (mo:=mo) (Bf hl))) ?_
 refine Ga rfl (Af (As (S8 11 10 9 8 7 6 0 1 rfl rfl rfl rfl rfl rfl rfl rfl) (Ah (Gm rfl (Gr (Bv rfl rfl) (Af (A9 rfl (fun c21=>?_) (fun c21=>?_))))))))
 ·exact absurd (slideE_zeroH hH) c21
 ·refine A0 (Ai (Ao (Ah (Gl2 ty40 ?_))))
  refine Gc0 (Am call89 rfl rfl (RatValid_ok (⟨num,den⟩:Fr) (by first|exact hf|exact hBR.frv hGr))) ?_
  refine Gr (Cd rfl) (Af (Cx rfl (A0 (Ai (Ao (Ah (Gm rfl (Gm rfl (Gl3 ty31 ?_)))))))))
  refine G.e (Am call98 rfl rfl Frames_ok) ?_
  rintro _ _ ⟨_,_,⟨qb6,qb7,qb8,rfl,rfl⟩,rfl,rfl⟩
  refine Af (As (S5 29 10 9 8 7 rfl rfl rfl rfl rfl) (Ax (W.fit (J:=blk b3 [I64 (0)] 3::blk b4 [.bool false] 4::blk b5 [I64 (0)] 36::blk qb8 [I64 (kd),I64 (wd),I64 (mo)] 31::blk qb7 [.slice ea es.length ec] 28::blk qb6 [I64 (nd)] 3::blk b2 [I64 (num),I64 (den)] 40::blk b1 [I64 (kd),I64 (wd),I64 (mo)] 31::I) B7 ?_)))
  refine W.rangeFnB (gf:=165) (lb:=[.pointer (some ⟨qb6,0,none⟩),.pointer (some ⟨qb7,0,none⟩),.pointer (some ⟨qb8,0,none⟩)]) rfl call165 fun Dm l rc hr1 hr2 hr3 hr4 hta=>?_
  refine (Frames1_ok (I:=blk qb8 [I64 (kd),I64 (wd),I64 (mo)] 31::blk qb7 [.slice ea es.length ec] 28::blk qb6 [I64 (nd)] 3::blk b2 [I64 (num),I64 (den)] 40::blk b1 [I64 (kd),I64 (wd),I64 (mo)] 31::I) (σ:=Unit) (τ:=Int) (l:=l) (Lf:=fun s=>[recI l rc,dfrI Dm,blk b3 [I64 (0)] 3,blk b4 [.bool false] 4,blk b5 [I64 (0)] 36]) (Pf:=fun fst j s=>(∀i:Nat,i<j→¬(reachQ nd kd wd mo es num den) (at_ (allE kd wd mo es) (i:Int)).tm)) (Xf:=fun s=>[recI l {rc with state:= .done,pending:=some .ret},dfrI Dm,blk b3 [I64 (s)] 3,blk b4 [.bool true] 4,blk b5 [I64 (0)] 36]) (Qf:=fun s=>(FirstYes kd wd mo es (reachQ nd kd wd mo es num den) s)) (s0:=()) hH hlen (Ds mm) (Ds mm) (Ds mm) (Bf hl) (fun i h=>absurd h (Nat.not_lt_zero i)) ?_).mono ?_
  ·rintro T hTI fst j tm own j1 ga gc hM _ hp
   have hq:(∀i:Nat,i<j→¬(reachQ nd kd wd mo es num den) (at_ (allE kd wd mo es) (i:Int)).tm):=hp
   have hbq0:BlkRd κ T b2 [I64 (num),I64 (den)] 40:=(Ds (I:=blk qb8 [I64 (kd),I64 (wd),I64 (mo)] 31::blk qb7 [.slice ea es.length ec] 28::blk qb6 [I64 (nd)] 3::blk b2 [I64 (num),I64 (den)] 40::blk b1 [I64 (kd),I64 (wd),I64 (mo)] 31::I) mm).fit hTI
   have hTT:TabRd κ T 0 tzCells:=(Cc (J:=blk qb8 [I64 (kd),I64 (wd),I64 (mo)] 31::blk qb7 [.slice ea es.length ec] 28::blk qb6 [I64 (nd)] 3::blk b2 [I64 (num),I64 (den)] 40::blk b1 [I64 (kd),I64 (wd),I64 (mo)] 31::I) hT A4).fit hTI
   have hmg:=mom_graph hH hM
   have hGr:GrOk nd (edgesK (linksL ((allE kd wd mo es).take j1))):=by rw [hmg];exact hH.graph tm
   refine YieldB.fit (J:=recI l rc::vc 135 (.slice ga (edgesK (linksL ((allE kd wd mo es).take j1))).length gc) (edgesK (linksL ((allE kd wd mo es).take j1)))::dfrI Dm::blk b3 [I64 (0)] 3::blk b4 [.bool false] 4::blk b5 [I64 (0)] 36::T) B7 ?_
   refine YieldB.mkA (L₀:=[(31,.agg #[I64 (nd),.slice ga (edgesK (linksL ((allE kd wd mo es).take j1))).length gc]),(30,.agg #[I64 (tm),.bool (own)]),(29,.func (.func 165) #[] #[.pointer (some ⟨qb6,0,none⟩),.pointer (some ⟨qb7,0,none⟩),.pointer (some ⟨qb8,0,none⟩)]),(10,.pointer (some ⟨b5,0,none⟩)),(9,.pointer (some ⟨b4,0,none⟩)),(8,.pointer (some ⟨b3,0,none⟩)),(7,.pointer (some ⟨b2,0,none⟩))]) (by rw [hr2];rfl) hr3 hr4 (by rw [hr2,fold_two];exact ag_two hta rfl rfl) ?_
   refine WR.seq ?_
   refine Ee (fun _ _ h=>False.elim h) rfl ?_
   refine Ge1 (A5 ty153 rfl) fun b9=>Ge0 (B1 ty153) ?_
   refine Bj (V.thenR ?_)
   refine Ee (fun _ _ h=>False.elim h) rfl ?_
   refine Ge1 (A5 ty48 rfl) fun b10=>Ge0 (B1 ty48) ?_
   refine Bj (V.begin (blk b10 [I64 (nd),.slice ga (edgesK (linksL ((allE kd wd mo es).take j1))).length gc] 48::blk b9 [I64 (tm),.bool (own)] 153::vc 135 (.slice ga (edgesK (linksL ((allE kd wd mo es).take j1))).length gc) (edgesK (linksL ((allE kd wd mo es).take j1)))::dfrI Dm::blk b3 [I64 (0)] 3::blk b4 [.bool false] 4::blk b5 [I64 (0)] 36::T) B7 hr1 ?_)
   refine WR.block ?_
   refine WR.seq ?_
   refine Ee (fun _ _ h=>False.elim h) rfl ?_
   refine Gl2 ty48 ?_
   refine G.e (Am call100 rfl rfl (BestD_ok (nd:=nd) Br (Cc hTT A4))) ?_
   rintro _ _ ⟨_,_,⟨ad11,cp12,Bqq15,ad13,cp14,ptq15,Nqq15,Dqq15,Eqq15,rfl,hBR,rfl⟩,rfl,rfl⟩
   refine Gm rfl (Gr (Az rfl rfl) (Gr (Az rfl rfl) (Ge1 (A5 ty102 rfl) fun b16=>Ge0 (Ez ty102) ?_)))
   refine Ga rfl (Bj (V.thenR ?_))
   refine WR.sub (L':=[(15,_),(14,_),(12,_),(10,_),(9,_),(8,_),(7,_)]) (Ac rfl (Ac rfl (Ac rfl (Ac rfl (Ac rfl (Ac rfl (Ac rfl Bq))))))) ?_
   refine WR.seq ?_
   refine Ee (fun _ _ h=>False.elim h) rfl ?_
   refine Gf fld153_1 rfl (Gl ty4 ?_)
   refine Gm rfl (G.splitb (d:=39) rfl (fun g39=>?_) (fun g39=>?_))
   ·refine Gro (Ad rfl) (Gro (Bs rfl rfl) (Gr (Ap rfl rfl) (Gm rfl (Bi (d:=43) rfl (fun g43=>?_) (fun g43=>?_)))))
    ·refine Gro (Aa fld102_1 rfl) (Gro (Bm (vs:=[_,_]) ty40) ?_)
     refine Gro (Runs.loadBs (vs:=[_,_]) ty40 rfl (C2 hbq0 A4) rfl rfl) ?_
     refine Eu (Cv rfl rfl rfl) (Am call101 rfl rfl (RatCmp_ok (⟨Nqq15,Dqq15⟩:Fr) (⟨num,den⟩:Fr) (by first|exact hf|exact hBR.frv hGr) (by first|exact hf|exact hBR.frv hGr))) ?_
     rintro _ _ ⟨_,_,⟨rfl,rfl⟩,rfl,rfl⟩
     refine Gro (Cg rfl rfl) (Gr (Ap rfl rfl) (Bj (V.thenR ?_)))
     refine WR.sub (L':=[(49,_),(12,_),(10,_),(9,_),(8,_)]) (Ac rfl (Ac rfl (Ac rfl (Ac rfl (Ac rfl Bq))))) ?_
     refine WR.ite rfl (fun c49=>?_) (fun c49=>?_)
     ·refine WR.seq ?_
      refine Ee (fun _ _ h=>False.elim h) rfl ?_
      refine Gf fld153_0 rfl (Gl ty3 ?_)
      refine Ge0 (Ci (cs:=[_]) (vs:=[_]) (cs':=[_]) ty3) ?_
      refine Ge0 (Ci (cs:=[_]) (vs:=[_]) (cs':=[_]) ty4) ?_
      refine Ge0 (Ci (cs:=[_]) (vs:=[_]) (cs':=[_]) ty36) ?_
      refine Bj (V.thenR ?_)
      refine WR.ret ?_
      exact Ar (V.roundRet (dfrI Dm::blk b3 [I64 (tm)] 3::blk b4 [.bool true] 4::blk b5 [I64 (0)] 36::T) B7 (.inr ⟨rfl,(tm),(show (FirstYes kd wd mo es (reachQ nd kd wd mo es num den) tm) from (fi_yes hH hM hq g39 (by have h:=(hBR.holds hGr hf).1 c49;rw [hmg] at h;exact h))),rfl⟩))
     ·refine WR.skip ?_
      exact Aj (V.roundB (dfrI Dm::blk b3 [I64 (0)] 3::blk b4 [.bool false] 4::blk b5 [I64 (0)] 36::T) B7 hr1 (.inl ⟨rfl,(),(show (∀i:Nat,i<j1→¬(reachQ nd kd wd mo es num den) (at_ (allE kd wd mo es) (i:Int)).tm) from (fi_next hM hq (by first|exact fun h=>absurd (g39.symm.trans h) dc|exact fun _ h=>c49 ((hBR.holds hGr hf).2 (by rw [hmg];exact h))))),rfl⟩))
    ·exact absurd (checkG_ok.2 hGr) g43
   ·refine Gpo (Gpo (Gr (Av rfl rfl) (Gm rfl (Gpo (Gpo (Gpo (Gpo (Gpo (Gr (Av rfl rfl) (Bj (V.thenR ?_)))))))))))
    refine WR.sub (L':=[(49,_),(12,_),(10,_),(9,_),(8,_)]) (Ac rfl (Ac rfl (Ac rfl (Ac rfl (Ac rfl Bq))))) ?_
    refine WR.no rfl ?_
    refine WR.skip ?_
    exact Aj (V.roundB (dfrI Dm::blk b3 [I64 (0)] 3::blk b4 [.bool false] 4::blk b5 [I64 (0)] 36::T) B7 hr1 (.inl ⟨rfl,(),(show (∀i:Nat,i<j1→¬(reachQ nd kd wd mo es num den) (at_ (allE kd wd mo es) (i:Int)).tm) from (fi_next hM hq (by first|exact fun h=>absurd (g39.symm.trans h) dc|exact fun _ h=>c49 ((hBR.holds hGr hf).2 (by rw [hmg];exact h))))),rfl⟩))
  rintro v K ⟨rfl,(⟨_,hp,rfl⟩|⟨tv,hp,rfl⟩)⟩
  ·have hq:(∀i:Nat,i<(allE kd wd mo es).length→¬(reachQ nd kd wd mo es num den) (at_ (allE kd wd mo es) (i:Int)).tm):=hp
   refine .inl ⟨_,rfl,?_⟩
   show V κ _ _ .normal ([(29,.func (.func 165) #[] #[.pointer (some ⟨qb6,0,none⟩),.pointer (some ⟨qb7,0,none⟩),.pointer (some ⟨qb8,0,none⟩)]),(10,.pointer (some ⟨b5,0,none⟩)),(9,.pointer (some ⟨b4,0,none⟩)),(8,.pointer (some ⟨b3,0,none⟩)),(7,.pointer (some ⟨b2,0,none⟩))]:Env) (dfrI Dm::blk b3 [I64 (0)] 3::blk b4 [.bool false] 4::blk b5 [I64 (0)] 36::blk qb8 [I64 (kd),I64 (wd),I64 (mo)] 31::blk qb7 [.slice ea es.length ec] 28::blk qb6 [I64 (nd)] 3::blk b2 [I64 (num),I64 (den)] 40::blk b1 [I64 (kd),I64 (wd),I64 (mo)] 31::I)
   refine Aj (Ai (Ah (Ge0 (Ci (cs:=[_]) (vs:=[_]) (cs':=[_]) ty3) ?_)))
   refine Ge0 (Ci (cs:=[_]) (vs:=[_]) (cs':=[_]) ty4) ?_
   refine Ge0 (Ci (cs:=[_]) (vs:=[_]) (cs':=[_]) ty36) ?_
   refine Af (A2 (V.fit (J:=dfrI Dm::blk b3 [I64 (0)] 3::blk b4 [.bool false] 4::blk b5 [I64 (0)] 36::blk qb8 [I64 (kd),I64 (wd),I64 (mo)] 31::blk qb7 [.slice ea es.length ec] 28::blk qb6 [I64 (nd)] 3::blk b2 [I64 (num),I64 (den)] 40::blk b1 [I64 (kd),I64 (wd),I64 (mo)] 31::I) B7 (V.leave ?_)))
   exact V.retv3 rfl ty3 ty4 ty36 rfl rfl rfl mm mm mm (I) A4 ⟨0,false,rfl,.inr ⟨rfl,rfl,fi_no hq⟩,rfl⟩
  ·have hQ:(FirstYes kd wd mo es (reachQ nd kd wd mo es num den) tv):=hp
   refine .inr ⟨_,_,rfl,?_⟩
   show W Tryz.prog κ _ _ _ ([(29,.func (.func 165) #[] #[.pointer (some ⟨qb6,0,none⟩),.pointer (some ⟨qb7,0,none⟩),.pointer (some ⟨qb8,0,none⟩)]),(10,.pointer (some ⟨b5,0,none⟩)),(9,.pointer (some ⟨b4,0,none⟩)),(8,.pointer (some ⟨b3,0,none⟩)),(7,.pointer (some ⟨b2,0,none⟩))]:Env) (dfrI Dm::blk b3 [I64 (tv)] 3::blk b4 [.bool true] 4::blk b5 [I64 (0)] 36::blk qb8 [I64 (kd),I64 (wd),I64 (mo)] 31::blk qb7 [.slice ea es.length ec] 28::blk qb6 [I64 (nd)] 3::blk b2 [I64 (num),I64 (den)] 40::blk b1 [I64 (kd),I64 (wd),I64 (mo)] 31::I)
   refine A2 (Ar (Al (V.fit (J:=dfrI Dm::blk b3 [I64 (tv)] 3::blk b4 [.bool true] 4::blk b5 [I64 (0)] 36::blk qb8 [I64 (kd),I64 (wd),I64 (mo)] 31::blk qb7 [.slice ea es.length ec] 28::blk qb6 [I64 (nd)] 3::blk b2 [I64 (num),I64 (den)] 40::blk b1 [I64 (kd),I64 (wd),I64 (mo)] 31::I) B7 (V.leave ?_))))
   exact V.retv3 rfl ty3 ty4 ty36 rfl rfl rfl mm mm mm (I) A4 ⟨tv,true,rfl,.inl ⟨rfl,hQ⟩,rfl⟩
end Go.Sl
/- The links at a time depend on the events up to it alone. No conditions. -/
namespace Go.Sl
end Go.Sl
namespace Go.Sl
open Go.Proofs
set_option maxRecDepth 4000
section
variable {P:Program}{κ:Ctx}{N:Frm}{L:Env}{J:List Item}{d:Option Tmp}{ty:TypeId}{ps:String}{af:Array Edge}{gd:Option (Nat×Bool)}
theorem Runs.eqC{x y:Operand}{T U:TypeId}{v u:Value}{b:Bool}(hg:∀w:World,(eqGuard .eql T x y v u).run P w = .ok () w)(hT:∀w:World,(binOp .eql T v u).run P w = .ok (.bool b) w)(hx:evalO L x=some v)(hy:evalO L y=some u) :
  Runs P κ N ⟨d,.binOp .eql T x y U,ty,ps,af,gd⟩ L J (.bool b):=fun a w ha _=>by
 simp only [execOp,ha.eval hx,ha.eval hy]
 simp [hg w,hT w]
end
theorem QOf8_ok{κ:Ctx}{I:List Item}  :
    CallS Tryz.prog κ 176 [I64 (8)] I (fun r J=>r = .agg #[.bool false,.bool false,.bool false,.bool false,.bool true]∧I=J):=by
 refine Ce1 Tryz.func176 rfl rfl ?_
 refine Ah (Ge1 (A5 ty220 rfl) fun b1=>Af (Ah (Ge1 (A5 ty220 rfl) fun b2=>Af (Ao (Ah (Gm rfl (Af (Ax (Ao (Ax (Ao (Ax (Ao (Ax (Ao (Ax (Ao (Ax (Ao (Ax (Ao (Ax (Ao (Ao (Ah (Gr (Bs rfl rfl) (Ga rfl (Af (A9 rfl (fun c5=>?_) (fun c5=>?_))))))))))))))))))))))))))))))
 ·exact absurd c5 dc
 ·refine A0 (Ai (Ao (Ah (Gr (Bs rfl rfl) (Ga rfl (Af (A9 rfl (fun c7=>?_) (fun c7=>?_))))))))
  ·exact absurd c7 dc
  ·refine A0 (Ai (Ao (Ah (Gr (Bs rfl rfl) (Ga rfl (Af (A9 rfl (fun c9=>?_) (fun c9=>?_))))))))
   ·exact absurd c9 dc
   ·refine A0 (Ai (Ao (Ao (Ah (Gr (Bs rfl rfl) (Ga rfl (Af (A9 rfl (fun c11=>?_) (fun c11=>?_)))))))))
    ·exact absurd c11 dc
    ·refine Aw (Gr (Bs rfl rfl) (Ga rfl (Af (As (S4 11 4 3 2 rfl rfl rfl rfl) (A9 rfl (fun c11=>?_) (fun c11=>?_))))))
     ·exact absurd c11 dc
     ·refine A0 (Ai (Ao (Ao (Ah (Gr (Bs rfl rfl) (Ga rfl (Af (A9 rfl (fun c14=>?_) (fun c14=>?_)))))))))
      ·exact absurd c14 dc
      ·refine Ah (Gr (Bs rfl rfl) (Ga rfl (Af (A9 rfl (fun c14=>?_) (fun c14=>?_)))))
       ·exact absurd c14 dc
       ·refine Aw (Gr (Bs rfl rfl) (Ga rfl (Af (A9 rfl (fun c14=>?_) (fun c14=>?_)))))
        ·exact absurd c14 dc
        ·refine A0 (Ai (Ao (Ah (Gr (Bs rfl rfl) (Ga rfl (Af (A9 rfl (fun c18=>?_) (fun c18=>?_))))))))
         ·refine Bt (Ak (Ak (B8 rfl (Ak (B8 rfl (Ak (B8 rfl (Ak (B8 rfl (Ak (B8 rfl (Ak (A6 (Ai (Ah (Gf fld220_4 rfl (Ge0 (Ci (cs:=[_,_,_,_,_]) (vs:=[_]) (cs':=[_,_,_,_,_]) ty4) ?_)))))))))))))))))
          refine Af (Bt (B8 rfl (Ak (A6 (Ai (Ah (Gr (Bm (vs:=[_,_,_,_,_]) ty220) ?_)))))))
          refine Ge0 (Ez ty220) ?_
          exact Af (As (S1 2 rfl) (A2 (Cw rfl ty220 rfl mm rfl (I) A4 ⟨rfl,rfl⟩)))
         ·exact absurd rfl c18
theorem QCheck8_ok{κ:Ctx}{I:List Item}{n num den:Int}(hf:FrV ⟨num,den⟩) :
    CallS Tryz.prog κ 105 [.agg #[I64 (8),I64 (0),I64 (0),I64 (0),.slice none 0 0,I64 (num),I64 (den)],I64 (n)] I (fun r J=>r=I64 0∧I=J):=by
 have hn0:0≤num:=hf.n0
 refine Ce2 Tryz.func105 rfl rfl ?_
 refine Ah (Ge1 (Bb (cs:=[_,_,_,_,_,_,_]) rfl rfl rfl) fun b1=>Ga rfl (Af (Ah (Gf fld71_0 rfl (Gl ty3 ?_)))))
 refine G.e (Am call176 rfl rfl QOf8_ok) ?_
 rintro _ _ ⟨_,_,⟨rfl,rfl⟩,rfl,rfl⟩
 refine Ge1 (A5 ty220 rfl) fun b2=>Ge0 (Ez ty220) ?_
 refine Af (Ao (Ax (Ah (Gr (Bm (vs:=[_,_,_,_,_]) ty220) ?_))))
 refine Gr (Be (cells:=[_,_,_,_,_]) ty220 Eq pl220 rfl rfl) (Gr (Runs.eqC (fun w=>by kernel_rfl) (fun w=>by kernel_rfl) rfl rfl) (Ga rfl (Af (Cx rfl (Ah (Gf fld220_0 rfl (Gl ty4 ?_)))))))
 refine Gm rfl (Gpo (Gpo (Gpo (Gpo (Gpu (Gpu (Gpu (Gpu (Gpo (Gr (Av rfl rfl) (Gm rfl (Gro (Aa fld220_1 rfl) (Gro (Au ty4) ?_)))))))))))))
 refine Gro (Ad rfl) (Gpo (Gpo (Gpo (Gpo (Gpo (Gpo (Gpo (Gro (Av rfl rfl) (Gr (Av rfl rfl) (Ga rfl (Af (As (S3 13 5 2 rfl rfl rfl) (Cx rfl (Ah (Gf fld220_3 rfl (Gl ty4 ?_))))))))))))))))
 refine Gm rfl (Gpo (Gpo (Gpo (Gpo (Gpu (Gpu (Gpu (Gpo (Gr (Av rfl rfl) (Ga rfl (Af (As (S3 40 5 2 rfl rfl rfl) (Cx rfl (Ah (Gf fld220_2 rfl (Gl ty4 ?_))))))))))))))))
 refine Gm rfl (Gpo (Gpo (Gpo (Gpo (Gpu (Gpu (Gpu (Gpo (Gr (Av rfl rfl) (Gm rfl (Gro (Aa fld220_4 rfl) (Gro (Au ty4) ?_))))))))))))
 refine Gro (Ad rfl) (Gro (Aa fld71_5 rfl) (Gro (Bm (vs:=[_,_]) ty40) ?_))
 refine Eu (Cv rfl rfl rfl) (Am call89 rfl rfl (RatValid_ok (⟨num,den⟩:Fr) hf)) ?_
 rintro _ _ ⟨_,_,⟨rfl,rfl⟩,rfl,rfl⟩
 refine Gro (Cd rfl) (Gro (Ad rfl) (Gro (Aa fld71_5 rfl) (Gro (Aa fld40_0 rfl) (Gro (Au ty3) ?_))))
 refine Gro (Bc rfl rfl) (Gro (Av rfl rfl) (Gro (Ap rfl rfl) (Gr (Av rfl rfl) (Ga rfl (Af (As (S3 53 5 2 rfl rfl rfl) (A9 rfl (fun c53=>?_) (fun c53=>?_))))))))
 ·refine Ah (Ga rfl (Af (A2 (Ar (Al ?_)))))
  exfalso;first|omega|(exact absurd rfl asm)|(simp_all;done)
 ·refine Ah (Gf fld220_0 rfl (Gl ty4 ?_))
  refine Gr (Cd rfl) (Gm rfl (Gro (Aa fld71_1 rfl) (Gro (Au ty3) ?_)))
  refine Gro (Bv rfl rfl) (Gr (Ap rfl rfl) (Gm rfl (Bi (d:=91) rfl (fun g91=>?_) (fun g91=>?_))))
  ·refine Gpo (Gpo (Gpo (Gpo (Gpu (Gpu (Gpu (Gpu (Gpo (Gr (Ap rfl rfl) (Gm rfl (Gpo (Gpo (Gpo (Gpo (Gpu (Gpu (Gpu (Gpo (Gr (Ap rfl rfl) (Gm rfl (Gpo (Gpo (Gpo (Gpo (Gpu (Gpu (Gpu (Gpo (Gr (Ap rfl rfl) (Gm rfl (Gpo (Gpo (Gpo (Gpo (Gpu (Gpu (Gpu (Gpu (Gpo (Gr (Ap rfl rfl) (Ga rfl (Af (As (S1 82 rfl) (Cl rfl (Ah (Ga rfl (Af (A2 (Ar (Al ?_))))))))))))))))))))))))))))))))))))))))))))))))))
   exfalso;first|omega|(exact absurd rfl asm)|(simp_all;done)
  ·refine Gro (Aa fld220_1 rfl) (Gro (Au ty4) ?_)
   refine Gro (Cd rfl) (Gro (Ad rfl) (Gro (Aa fld71_4 rfl) (Gro (Au ty22) ?_)))
   refine Gro (Bw Ab rfl) (Gro (B5 rfl rfl) (Gro (Ap rfl rfl) (Gr (Av rfl rfl) (Gm rfl (Bi (d:=102) rfl (fun g102=>?_) (fun g102=>?_))))))
   ·refine Gpo (Gpo (Gpo (Gpo (Gpu (Gpu (Gpu (Gpo (Gr (Ap rfl rfl) (Gm rfl (Gpo (Gpo (Gpo (Gpo (Gpu (Gpu (Gpu (Gpo (Gr (Ap rfl rfl) (Gm rfl (Gpo (Gpo (Gpo (Gpo (Gpu (Gpu (Gpu (Gpu (Gpo (Gr (Ap rfl rfl) (Ga rfl (Af (As (S1 82 rfl) (Cl rfl (Ah (Ga rfl (Af (A2 (Ar (Al ?_)))))))))))))))))))))))))))))))))))))))
    exfalso;first|omega|(exact absurd rfl asm)|(simp_all;done)
   ·refine Gro (Aa fld220_3 rfl) (Gro (Au ty4) ?_)
    refine Gro (Cd rfl) (Gro (Ad rfl) (Gro (Aa fld71_3 rfl) (Gro (Au ty3) ?_)))
    refine Gro (Bv rfl rfl) (Gro (Ap rfl rfl) (Gr (Av rfl rfl) (Gm rfl (Bi (d:=112) rfl (fun g112=>?_) (fun g112=>?_)))))
    ·refine Gpo (Gpo (Gpo (Gpo (Gpu (Gpu (Gpu (Gpo (Gr (Ap rfl rfl) (Gm rfl (Gpo (Gpo (Gpo (Gpo (Gpu (Gpu (Gpu (Gpu (Gpo (Gr (Ap rfl rfl) (Ga rfl (Af (As (S1 82 rfl) (Cl rfl (Ah (Ga rfl (Af (A2 (Ar (Al ?_)))))))))))))))))))))))))))))
     exfalso;first|omega|(exact absurd rfl asm)|(simp_all;done)
    ·refine Gro (Aa fld220_2 rfl) (Gro (Au ty4) ?_)
     refine Gro (Cd rfl) (Gro (Ad rfl) (Gro (Aa fld71_2 rfl) (Gro (Au ty3) ?_)))
     refine Gro (Bv rfl rfl) (Gro (Ap rfl rfl) (Gr (Av rfl rfl) (Gm rfl (Bi (d:=122) rfl (fun g122=>?_) (fun g122=>?_)))))
     ·refine Gpo (Gpo (Gpo (Gpo (Gpu (Gpu (Gpu (Gpu (Gpo (Gr (Ap rfl rfl) (Ga rfl (Af (As (S1 82 rfl) (Cl rfl (Ah (Ga rfl (Af (A2 (Ar (Al ?_)))))))))))))))))))
      exfalso;first|omega|(exact absurd rfl asm)|(simp_all;done)
     ·refine Gro (Aa fld220_4 rfl) (Gro (Au ty4) ?_)
      exact Gro (Cd rfl) (Gro (Ad rfl) (Gpo (Gpo (Gpo (Gpo (Gro (Av rfl rfl) (Gr (Av rfl rfl) (Ga rfl (Af (As (S1 82 rfl) (Cx rfl (A0 (Aj (Ai (Ah (Ga rfl (Af (A2 (A7 rfl rfl (I) A4 ⟨rfl,rfl⟩)))))))))))))))))))
theorem PAt_ok{κ:Ctx}{I:List Item}{nd kd wd mo tq:Int}{ea:Option Addr}{ec:Nat}{es:List Ev}(hl:Sl κ I (.slice ea es.length ec) es)(hH:HistOk nd kd wd mo es)(hlen:es.length≤19)(ht:0≤tq∧tq≤1048576) :
    CallS Tryz.prog κ 180 [.agg #[I64 (nd),.slice ea es.length ec,I64 (kd),I64 (wd),I64 (mo)],I64 (tq)] I (fun r J=>∃a c,r = .agg #[I64 nd,.slice a (atG kd wd mo es tq).length c]∧J=vc 135 (.slice a (atG kd wd mo es tq).length c) (atG kd wd mo es tq)::I):=by
 refine Ce2 Tryz.func180 rfl rfl ?_
 refine Ah (Ge1 (Bb (cs:=[_,_,_,_,_]) rfl rfl rfl) fun b1=>Ge1 (A5 ty48 rfl) fun b2=>Af (Ah (Gf fld163_0 rfl (Gl ty3 ?_))))
 refine Gf fld163_1 rfl (Gl ty28 ?_)
 refine Gf fld163_2 rfl (Gl3 ty31 ?_)
 refine Gm rfl (G.e (Am call44 rfl rfl (At_ok (nd:=nd) (kd:=kd) (wd:=wd) (mo:=mo) (tq:=tq) (Bf hl) hH hlen ht)) ?_)
 rintro _ _ ⟨_,_,⟨ad3,cp4,rfl,rfl⟩,rfl,rfl⟩
 refine Gm rfl (Gr (Az rfl rfl) (Gr (Az rfl rfl) (Ge1 (A5 ty48 rfl) fun b5=>Ge0 (B1 ty48) ?_)))
 refine Ga rfl (Af (As (S2 5 4 rfl rfl) (Ah (Gl2 ty48 ?_))))
 refine Ge0 (B1 ty48) ?_
 exact Af (A2 (Cw rfl ty48 rfl mm rfl (vc 135 (.slice ad3 (atG kd wd mo es tq).length cp4) (atG kd wd mo es tq)::I) B7 ⟨ad3,cp4,rfl,rfl⟩))
set_option maxHeartbeats 1000000 in
theorem ADense_ok{κ:Ctx}{I:List Item}{nd tv:Int}{ea:Option Addr}{ec:Nat}{es:List Pt}(hl:Sl κ I (.slice ea es.length ec) es)(hT:TabRd κ I 0 tzCells) :
    CallS Tryz.prog κ 186 [.agg #[I64 (nd),.slice ea es.length ec],.agg #[.bool false,I64 (0),I64 (tv),.slice none 0 0,I64 (0),I64 (0),.slice none 0 0,.slice none 0 0,.slice none 0 0,I64 (0),.slice none 0 0]] I (fun r J=>∃a c B a2 c2 parts N D E,r = .agg #[.bool true,I64 0,I64 (tv),.slice a (listB B).length c,I64 N,I64 D,.slice none 0 0,.slice none 0 0,.slice none 0 0,I64 E,.slice a2 (parts:List Int).length c2]∧BestR nd es N D B∧J=vc 3 (.slice a (listB B).length c) (listB B)::vc 3 (.slice a2 parts.length c2) parts::I):=by
 refine Ce2 Tryz.func186 rfl rfl ?_
 refine Ah (Ge1 (Bb (cs:=[_,_]) rfl rfl rfl) fun b1=>Ge1 (Bb (cs:=[_,_,_,_,_,_,_,_,_,_,_]) rfl rfl rfl) fun b2=>Ge1 (A5 ty90 rfl) fun b3=>Af (Ah (Gl2 ty48 ?_)))
 refine G.e (Am call100 rfl rfl (BestD_ok (nd:=nd) (Bf hl) (Cc hT A4))) ?_
 rintro _ _ ⟨_,_,⟨ad4,cp5,Bqq8,ad6,cp7,ptq8,Nqq8,Dqq8,Eqq8,rfl,hBR,rfl⟩,rfl,rfl⟩
 refine Gm rfl (Gr (Az rfl rfl) (Gr (Az rfl rfl) (Ge1 (A5 ty102 rfl) fun b9=>Ge0 (Ez ty102) ?_)))
 refine Ga rfl (Af (Ao (Bo mixed (Bu (blk b9 [.slice ad4 (listB Bqq8).length cp5,I64 (Nqq8),I64 (Dqq8),I64 (Eqq8),.slice ad6 ptq8.length cp7] 102::vc 3 (.slice ad4 (listB Bqq8).length cp5) (listB Bqq8)::vc 3 (.slice ad6 ptq8.length cp7) (ptq8)::blk b3 [.bool false,I64 (0),I64 (0),.slice none 0 0,I64 (0),I64 (0),.slice none 0 0,.slice none 0 0,.slice none 0 0,I64 (0),.slice none 0 0] 90::blk b1 [I64 (nd),.slice ea es.length ec] 48::I) 14 (Dr 0 rfl (Aa fld102_0 rfl) (Dr 1 rfl (Au ty22) ?_))))))
 refine Dr 2 rfl (Aa fld102_1 rfl) (Dr 3 rfl (Bm (vs:=[_,_]) ty40) ?_)
 refine Dr 4 rfl (Aa fld102_2 rfl) (Dr 5 rfl (Bm (vs:=[_,_]) ty88) ?_)
 refine Dr 6 rfl (Aa fld90_0 rfl) (Ds1 7 (Se0 rfl (Ci (cs:=[_,_,_,_,_,_,_,_,_,_,_]) (vs:=[_]) (cs':=[_,_,_,_,_,_,_,_,_,_,_]) ty4) ?_))
 refine Dr 8 rfl (Aa fld90_3 rfl) (Ds1 9 (Se0 rfl (Ci (cs:=[_,_,_,_,_,_,_,_,_,_,_]) (vs:=[_]) (cs':=[_,_,_,_,_,_,_,_,_,_,_]) ty22) ?_))
 refine Dr 10 rfl (Aa fld90_4 rfl) (Ds1 11 (Se0 rfl (Ci (cs:=[_,_,_,_,_,_,_,_,_,_,_]) (vs:=[_,_]) (cs':=[_,_,_,_,_,_,_,_,_,_,_]) ty40) ?_))
 refine Dr 12 rfl (Aa fld90_8 rfl) (Ds1 13 (Se0 rfl (Ci (cs:=[_,_,_,_,_,_,_,_,_,_,_]) (vs:=[_,_]) (cs':=[_,_,_,_,_,_,_,_,_,_,_]) ty88) ?_))
 refine Dz (Ai (As (S2 4 3 rfl rfl) (Ah (Gr (Bm (vs:=[_,_,_,_,_,_,_,_,_,_,_]) ty90) ?_))))
 refine Ge0 (Ci (cs:=[_,_,_,_,_,_,_,_,_,_,_]) (vs:=[_,_,_,_,_,_,_,_,_,_,_]) (cs':=[_,_,_,_,_,_,_,_,_,_,_]) ty90) ?_
 exact Af (A2 (Cw rfl ty90 rfl mm rfl (vc 3 (.slice ad4 (listB Bqq8).length cp5) (listB Bqq8)::vc 3 (.slice ad6 ptq8.length cp7) ptq8::I) B7 ⟨ad4,cp5,Bqq8,ad6,cp7,ptq8,Nqq8,Dqq8,Eqq8,rfl,hBR,rfl⟩))
end Go.Sl
namespace Go.Sl
end Go.Sl
namespace Go.Sl
open Go.Proofs
set_option maxRecDepth 4000
end Go.Sl
namespace Go.Sl
end Go.Sl
