/- A part of the proofs of statements of this seat: contracts of functions, and the plain laws that they lean on. No conditions. -/
import Derived.Test.YtfkcohmipjhfcaaGreatDoorS14
import Derived.ScopeJumps
set_option linter.unusedVariables false
set_option linter.unusedSimpArgs false
set_option linter.unusedSectionVars false
open Go.Proofs.Tryz (prog)
open List (replicate)
namespace Go.Sl
open Go.Proofs
set_option maxRecDepth 4000
variable {κ:Ctx}{I:List Item}
def rowG(nd:Int)(es:List Pt)(v:Int):BitVec 64:=if v<0\/((ek nd es).length:Int)<=v\/checkG nd es≠0 then 0#64 else e_ (ek nd es) v
def nbL(es:List Pt)(v:Int):List Int:=es.flatMap λe=>(if e.u=v then [e.v] else [])++(if e.v=v then [e.u] else [])
theorem mem_nbL{es:List Pt}{v x:Int}:x∈nbL es v↔(⟨v,x⟩:Pt)∈es\/(⟨x,v⟩:Pt)∈es:=by
 unfold nbL
 rw [List.mem_flatMap]
 constructor
 ·rintro ⟨⟨a,b⟩,he,hx⟩
  rcases List.mem_append.1 hx with h|h
  ·split at h
   ·rename_i h1;simp only [List.mem_singleton] at h;simp only at h1;subst h h1;exact .inl he
   ·simp at h
  ·split at h
   ·rename_i h1;simp only [List.mem_singleton] at h;simp only at h1;subst h h1;exact .inr he
   ·simp at h
 ·rintro (h|h)
  ·exact ⟨_,h,by simp⟩
  ·exact ⟨_,h,by simp⟩
def nbG(nd:Int)(es:List Pt)(v:Int):List Int:=if checkG nd es≠0 then [] else ofL (nbL es v)
theorem nb_eq(nd:Int)(es:List Pt)(v:Int):el (rowG nd es v)=nbG nd es v:=by
 by_cases hc:checkG nd es≠0
 ·unfold rowG nbG;rw [if_pos (.inr (.inr hc)),if_pos hc,Df]
 ·have hG:=checkG_ok.1 (Classical.not_not.1 hc)
  have hr:=hG.rng
  have hl:=hG.rows.len
  unfold nbG
  rw [if_neg hc]
  refine intLin.uniq (listB_asc _) (ofL_asc _) λx=>?_
  rw [Em,mem_ofL,mem_nbL]
  by_cases hv:v<0\/((ek nd es).length:Int)<=v
  ·have hz:rowG nd es v=0#64:=if_pos om
   rw [hz]
   simp only [BitVec.getLsbD_zero,Bool.false_eq_true,and_false,false_iff]
   rintro (h|h)
   ·have:=hG.edge _ h;simp only at this;omega
   ·have:=hG.edge _ h;simp only at this;omega
  ·have hz:rowG nd es v=e_ (ek nd es) v:=if_neg om
   rw [hz]
   by_cases hx:0<=x/\x<64
   ·rw [hG.rows.bit v x om om hx.1 hx.2,decide_eq_true_eq]
    exact ⟨λh=>h.2,λh=>⟨hx.1,h⟩⟩
   ·constructor
    ·rintro ⟨h1,h2⟩
     rw [BitVec.getLsbD_of_ge _ _ om] at h2
     exact absurd h2 dc
    ·rintro (h|h)
     ·have:=hG.edge _ h;simp only at this;omega
     ·have:=hG.edge _ h;simp only at this;omega
theorem listB_and(a b:BitVec 64):el (a &&& b)=meetL (el a) (el b):=by
 refine intLin.uniq (listB_asc _) ((ofL_asc _).sublist List.filter_sublist) λx=>?_
 rw [mem_meetL,Em,Em,Em,BitVec.getLsbD_and,Bool.and_eq_true]
 exact ⟨λh=>⟨⟨h.1,h.2.1⟩,h.1,h.2.2⟩,λh=>⟨h.1.1,h.1.2,h.2.2⟩⟩
def commonG(nd:Int)(es:List Pt)(u v:Int):List Int:=if u=v then [] else meetL (nbG nd es u) (nbG nd es v)
theorem common_eq{nd:Int}{es:List Pt}{u v:Int}(h:u≠v):el (rowG nd es u &&& rowG nd es v)=commonG nd es u v:=by
 unfold commonG;rw [if_neg h,listB_and,nb_eq,nb_eq]
theorem all_tab:∀n:Fin 65,∀i:Fin 64,(allB (n.val:Int)).getLsbD i.val=decide (i.val<n.val):=by decide+kernel
theorem getLsb_allB{n:Int}(h0:0<=n)(h1:n<=64){i:Nat}(hi:i<64):(allB n).getLsbD i=decide ((i:Int)<n):=by
 have:=all_tab ⟨n.toNat,by omega⟩ ⟨i,hi⟩
 simp only [show ((n.toNat:Nat):Int)=n by omega] at this
 rw [this,decide_eq_decide];omega
theorem meet_all{nd:Int}(set:List Int)(h0:0<=nd)(h1:nd<=64):el (maskB set &&& allB nd)=meetL set (rangeI nd):=by
 refine intLin.uniq (listB_asc _) ((ofL_asc _).sublist List.filter_sublist) λx=>?_
 rw [mem_meetL,Em,mem_rangeI,BitVec.getLsbD_and,Bool.and_eq_true]
 by_cases hx:0<=x/\x<64
 ·rw [getLsb_allB h0 h1 om,decide_eq_true_eq,show (maskB set).getLsbD x.toNat=decide (x∈set) by unfold maskB;rw [getLsb_maskB om,show ((x.toNat:Nat):Int)=x by omega];simp,decide_eq_true_eq]
  exact ⟨λh=>⟨h.2.1,h.1,by omega,by omega⟩,λh=>⟨h.2.1,h.1,by omega⟩⟩
 ·constructor
  ·rintro ⟨h1,h2,_⟩
   rw [BitVec.getLsbD_of_ge _ _ om] at h2
   exact absurd h2 dc
  ·rintro ⟨_,h⟩;omega
theorem dens_count{nd:Int}{es:List Pt}(set:List Int)(h:¬checkG nd es≠0):onesB (maskB set &&& allB nd)=((meetL set (rangeI nd)).length:Int):=by
 have hr:=(checkG_ok.1 (Classical.not_not.1 h)).rng
 rw [ones_pop,meet_all set hr.1 hr.2]
theorem dens_none{nd:Int}{es:List Pt}{set:List Int}(h:¬checkG nd es≠0)(hm:(meetL set (rangeI nd)).length=0):insideN nd es set=0:=by
 have hG:=checkG_ok.1 (Classical.not_not.1 h)
 have hr:=hG.rng
 rw [insideN_ok hG,List.length_eq_zero_iff,List.filter_eq_nil_iff]
 intro e he hd
 simp only [decide_eq_true_eq] at hd
 have h1:=hG.edge e he
 have:e.u∈meetL set (rangeI nd):=mem_meetL.2 ⟨hd.1,mem_rangeI.2 ⟨by omega,by omega,by omega⟩⟩
 rw [List.length_eq_zero_iff.1 hm] at this
 exact absurd this List.not_mem_nil
def densG(nd:Int)(es:List Pt)(set:List Int):Fr:=if checkG nd es≠0 then ⟨0,0⟩ else if (meetL set (rangeI nd)).length=0 then ⟨0,1⟩ else mkF ((insideN nd es set:Nat):Int) (((meetL set (rangeI nd)).length:Nat):Int)
theorem densG_prog{nd:Int}{es:List Pt}(set:List Int)(h:¬checkG nd es≠0):mkF ((insideN nd es set:Nat):Int) (if onesB (maskB set &&& allB nd)<1 then 1 else onesB (maskB set &&& allB nd))=densG nd es set:=by
 unfold densG
 rw [if_neg h,dens_count set h]
 by_cases hm:(meetL set (rangeI nd)).length=0
 ·rw [if_pos hm,dens_none h hm,if_pos om];exact mkF_zero dc
 ·rw [if_neg hm,if_neg om]
theorem GRowG_ok{nd:Int}{va:Value}{es:List Pt}(hl:Sl κ I va es)(v:Int):ep prog κ 333 [.agg #[e7 nd,va],e7 v] I (λr J=>r=U64 (rowG nd es v)/\I=J):=by
 refine Ce2 Tryz.func333 C C ?_
 refine Ah (Ge1 (Bc (cs:=[_,_]) C C C) λb1=>Ga C (Af (Ah (Gl2 ty48 ?_))))
 refine G.e (Ao call198 C C (MRows_ok (nd:=nd) (Bh hl))) ?_
 rintro _ _ ⟨_,_,⟨ad2,cp3,rfl,rfl⟩,rfl,rfl⟩
 have hrwad2:=rowsB_len nd es
 refine Ga C (Af (Au (Ah (Gm C (Gr (A9 C C) (Gm C (Ba (d:=10) C (λg10=>?_) (λg10=>?_))))))))
 ·exact eb (eb (eb (eb (Gr (Am C C) (Gm C (eb (eb (eb (Gr (Am C C) (Af (Aq (S3 20 5 1 C C C) (B7 C (Ah (Ga C (Af (Aw (Ai (A1 C C I A0 ⟨by rw [show rowG nd es v=0#64 from if_pos om];rfl,rfl⟩))))))))))))))))))
 ·refine e9 (Ad C) (e9 (Ad C) (e9 (Bm Cf C) (e9 (B8 C C) (Gr (Al C C) (Gm C (Ba (d:=16) C (λg16=>?_) (λg16=>?_)))))))
  ·exact eb (eb (eb (Gr (Am C C) (Af (Aq (S3 20 5 1 C C C) (B7 C (Ah (Ga C (Af (Aw (Ai (A1 C C I A0 ⟨by rw [show rowG nd es v=0#64 from if_pos om];rfl,rfl⟩))))))))))))
  ·refine e9 (Bq (vs:=[_,_]) ty48) ?_
   refine Ec (Cq C C C) (Ao call83 C C (CheckGen_ok (Bh hl))) ?_
   rintro _ _ ⟨_,_,⟨rfl,rfl⟩,rfl,rfl⟩
   refine e9 (Be C C) (Gr (Al C C) (Af (Aq (S3 20 5 1 C C C) (A6 C (λc20=>?_) (λc20=>?_)))))
   ·exact Ah (Ga C (Af (Aw (Ai (A1 C C I A0 ⟨by rw [show rowG nd es v=0#64 from if_pos om];rfl,rfl⟩)))))
   ·exact Ay (Aj (Ah (Gm C (Gm C (Gr (A3 (α:=(BitVec 64)) (xs:=ek nd es) Cf ty175 C C Bg om om) (Gr (C8 (α:=(BitVec 64)) (xs:=ek nd es) (u:=U64 ((e_ (ek nd es) v))) ty175 C Bg om om C) (Ga C (Af (Aw (A1 C C I A0 ⟨by rw [show rowG nd es v=e_ (ek nd es) v from if_neg om],rfl⟩))))))))))
theorem CommonG_ok{nd:Int}{va:Value}{es:List Pt}(hl:Sl κ I va es)(u v:Int)(hT:TabRd κ I 0 tzCells):ep prog κ 314 [.agg #[e7 nd,va],e7 u,e7 v] I (λr J=>∃a c,r = .slice a (commonG nd es u v).length c/\J=vc 3 (.slice a (commonG nd es u v).length c) (commonG nd es u v)::I):=by
 refine Ce3 Tryz.func314 C C ?_
 refine Ah (Ge1 (Bc (cs:=[_,_]) C C C) λb1=>Ga C (Af (Au (Ah (Gm C (Gm C (Gr (Bi C C) (Af (A6 C (λc9=>?_) (λc9=>?_))))))))))
 ·refine Ah (Ga C (Af (Aw (Ai ?_))))
  have hX:(commonG nd es u v)=[]:=if_pos c9
  exact A1 C C (vc 3 (.slice none (commonG nd es u v).length 0) (commonG nd es u v)::I) (by rw [hX];exact Cc (show Fit κ _ I from A0) (Bt (α:=Int) _ _)) ⟨none,0,by rw [hX];rfl,rfl⟩
 ·refine Ay (Aj (Au (Bl mixed (Br (e8 b1 [e7 nd,va] 48::I) 9 (Dr 0 C (Bq (vs:=[_,_]) ty48) ?_)))))
  refine Dr 1 C (Ad C) (Dr 3 C (Bq (vs:=[_,_]) ty48) ?_)
  refine Dr 4 C (Ad C) (Ds1 2 (Se C (Ao call333 C C (GRowG_ok (nd:=nd) (Bh hl) u)) ?_))
  rintro _ _ ⟨_,_,⟨rfl,rfl⟩,rfl,rfl⟩
  refine ⟨A5,?_⟩
  refine Ds1 5 (Se C (Ao call333 C C (GRowG_ok (nd:=nd) (Bh hl) v)) ?_)
  rintro _ _ ⟨_,_,⟨rfl,rfl⟩,rfl,rfl⟩
  refine ⟨A5,?_⟩
  refine Dr 6 C (Cx (a:=rowG nd es u) (b:=rowG nd es v) C C) (Ds1 7 (Sc2 C (Ao call171 C C (MList_ok ((rowG nd es u) &&& (rowG nd es v)) (Cg hT A0))) λad2 cp3=>?_))
  refine Dr 8 C (Bb C) (Dz (Aj (Aq (S1 6 C) (Aw ?_))))
  have hX:(commonG nd es u v)=_:=(common_eq c9).symm
  exact A1 C C (vc 3 (.slice ad2 (commonG nd es u v).length cp3) (commonG nd es u v)::I) (by rw [hX];exact A5) ⟨ad2,cp3,by rw [hX],rfl⟩
theorem DensityG_ok{nd:Int}{va vb:Value}{es:List Pt}{set:List Int}(hl:Sl κ I va es)(hs:Sl κ I vb set)(hb:es.length<=1000000):ep prog κ 147 [.agg #[e7 nd,va],vb] I (λr J=>r = .tuple #[.agg #[e7 (densG nd es set).num,e7 (densG nd es set).den],e7 (checkG nd es)]/\I=J):=by
 refine Ce2 Tryz.func147 C C ?_
 refine Ah (Ge1 (Bc (cs:=[_,_]) C C C) λb1=>Ge1 (A8 ty40 C) λb2=>Ga C (Af (Au (Ah (Gl2 ty48 ?_)))))
 refine Gc0 (Ao call83 C C (CheckGen_ok (Bh hl))) ?_
 refine Ga C (Af (Ah (Gm C (Gr (Be C C) (Af (A6 C (λc11=>?_) (λc11=>?_)))))))
 ·refine Ah (Gr (Bf (cells:=[_,_]) ty40 Ch pl40 C C) (Gm C (Ge0 (Cd ty40) ?_)))
  refine Ga C (Af (Aw (Ai ?_)))
  have hX:(densG nd es set)=⟨0,0⟩:=if_pos c11
  exact Dq C ty40 C C mm C I A0 ⟨by first|(rw [hX];done)|(rw [hX];rfl),rfl⟩
 ·refine Ay (Aj (Au (Bl mixed (Br (e8 b2 [e7 0,e7 0] 40::e8 b1 [e7 nd,va] 48::I) 8 (Dr 0 C (Ad C) (Dr 2 C (Ab fld48_0 C) (Dr 3 C (As ef) ?_)))))))
  refine Ds1 1 (Sc0 C (Ao call199 C C (MaskOf_ok (Bh hs))) ?_)
  refine Ds1 4 (Sc0 C (Ao call200 C C (MaskAll_ok nd)) ?_)
  refine Dr 5 C (Cx (a:=maskB set) (b:=allB nd) C C) (Ds1 6 (Sc0 C (Ao call219 C C (MCount_ok ((maskB set) &&& (allB nd)))) ?_))
  refine Dr 7 C (Bb C) (Dz (Aj (Aq (S4 7 4 2 1 C C C C) (Ah (Gl2 ty48 ?_)))))
  refine Gm C (Gc0 (Ao call221 C C (InsideG_ok (nd:=nd) (Bh hl) (Bh hs) om)) ?_)
  have hin23:=insideN_le nd es set
  refine Gm C (Gr (D2 C C) (Gc0 (Ao call220 C C (MakeF_ok ((insideN nd es set:Nat):Int) (if (onesB ((maskB set) &&& (allB nd)))<1 then 1 else (onesB ((maskB set) &&& (allB nd)))) om (by have:=onesB_bd (maskB set &&& allB nd);split<;>omega))) ?_))
  refine Gr (A2 C C) (Gr (A2 C C) (Ge0 (Cd ty40) ?_))
  refine Ga C (Af (Aw ?_))
  have hX:=densG_prog (nd:=nd) (es:=es) set c11
  have hz:checkG nd es=0:=Classical.not_not.1 c11
  exact Dq C ty40 C C mm C I A0 ⟨by first|(rw [←hX,hz];done)|(rw [←hX,hz];rfl),rfl⟩
variable {κ:Ctx}{I:List Item}
theorem all_rows{nd:Int}{es:List Pt}(h:0<=nd/\nd<=64)(i:Nat)(hi:(allB nd).getLsbD i=true):i<(ek nd es).length:=by
 have h64:i<64:=Classical.byContradiction λhn=>by rw [BitVec.getLsbD_of_ge _ _ om] at hi;cases hi
 rw [getLsb_allB h.1 h.2 h64,decide_eq_true_eq] at hi
 rw [rowsB_len];omega
theorem and_all_rows{nd:Int}{es:List Pt}(m:BitVec 64)(h:0<=nd/\nd<=64)(i:Nat)(hi:(m &&& allB nd).getLsbD i=true):i<(ek nd es).length:=by
 rw [BitVec.getLsbD_and,Bool.and_eq_true] at hi;exact all_rows h i hi.2
theorem MReach_ok{va:Value}{rows:List (BitVec 64)}(hl:Sl κ I va rows)(f w:BitVec 64)(hw:∀i:Nat,w.getLsbD i=true->i<rows.length)(hT:TabRd κ I 0 tzCells):ep prog κ 197 [va,U64 f,U64 w] I (λr J=>r=U64 (reachB rows f w)/\I=J):=by
 refine Ce3 Tryz.func197 C C ?_
 refine Ah (Ga C (Af (Ah (Gm C (Gm C (Gr (Cx (a:=f) (b:=w) C C) (Ga C (Af (Au (Ah (Gm C (Ga C (Af (A4 (Bu (σ:=(BitVec 64)×(BitVec 64)) (λs=>([(0,va),(1,U64 (s.2)),(2,U64 w),(7,U64 (s.1))]:Env)) (λs=>I) (λs=>(ReachI rows f w s.1 s.2)) (λs=>reachM w s.1 s.2) (f &&& w,f &&& w) (show (ReachI rows f w (f &&& w:BitVec 64) (f &&& w:BitVec 64)) from .begin) (Aa C (Aa (Cr C (by first|rfl|simp)) (Aa C (Aa (Cr C (by first|rfl|simp)) Bj)))) (show Fit κ _ I from A5) ?_)))))))))))))))
 rintro ⟨front,frm⟩ hp
 dsimp only at hp ⊢
 have hR:=hp
 refine Au (Ah (Gm C (Gr (Er (a:=front) (b:=0#64) C C) (Af (A6 C (λc15=>?_) (λc15=>?_))))))
 ·refine Ay (Aj (A4 (Ah (Gm C (Gc0 (Ao call238 C C (Least_ok front (Cg hT A0))) ?_)))))
  refine Ga C ?_
  have htz:=tzB_range c15
  have hbd:=hw _ (hR.sub _ (hR.fsub _ htz.2.2))
  exact Af (Ah (Gm C (Gm C (Gr (Runs.subB (a:=front) (b:=1#64) C C) (Gr (Cx (a:=front) (b:=front - (1#64)) C C) (Ga C (Af (Aq (S5 7 8 0 1 2 C C C C C) (Ah (Gm C (Gm C (Gr (A3 (α:=(BitVec 64)) (xs:=rows) Cf ty175 C C (Bh hl) om om) (Gr (C8 (α:=(BitVec 64)) (xs:=rows) (u:=U64 ((e_ rows (tzB front)))) ty175 C (Bh hl) om om C) (Gm C (Gr (Cx (a:=(e_ rows (tzB front))) (b:=w) C C) (Gm C (Gr (Ek (a:=(e_ rows (tzB front)) &&& w) (b:=frm) C C) (Ga C (Af (Aq (S5 9 7 0 1 2 C C C C C) (Ah (Gm C (Gm C (Gr (Ez (a:=frm) (b:=((e_ rows (tzB front)) &&& w) &&& ~~~frm) C C) (Ga C (Af (Ax (Gm C (Gm C (Gr (Ez (a:=front &&& (front - (1#64))) (b:=((e_ rows (tzB front)) &&& w) &&& ~~~frm) C C) (Ga C (Bd (Ak (B2 (((front &&& (front - (1#64))) ||| (((e_ rows (tzB front)) &&& w) &&& ~~~frm)),(frm ||| (((e_ rows (tzB front)) &&& w) &&& ~~~frm))) (by dsimp only;exact (hR.step c15).1) (hlt:=by (try dsimp only);exact (hR.step c15).2)))))))))))))))))))))))))))))))))))
 ·refine Bs (Ap (Ap (A7 (Aj (Ah (Gm C (Ga C (Af (Aw ?_)))))))))
  have hz:front=0#64:=Classical.not_not.1 c15
  subst hz
  exact A1 C C I A0 ⟨by rw [hR.eq],rfl⟩
def rchG(nd:Int)(es:List Pt)(frm set:List Int):List Int:=if checkG nd es≠0 then [] else el (reachB (ek nd es) (maskB frm) (maskB set &&& allB nd))
theorem CReach_ok{nd:Int}{va vb vd:Value}{es:List Pt}{frm set:List Int}(hl:Sl κ I va es)(hf:Sl κ I vb frm)(hs:Sl κ I vd set)(hT:TabRd κ I 0 tzCells):ep prog κ 110 [.agg #[e7 nd,va],vb,vd] I (λr J=>∃a c,r = .tuple #[.slice a (rchG nd es frm set).length c,e7 (checkG nd es)]/\J=vc 3 (.slice a (rchG nd es frm set).length c) (rchG nd es frm set)::I):=by
 refine Ce3 Tryz.func110 C C ?_
 refine Ah (Ge1 (Bc (cs:=[_,_]) C C C) λb1=>Ga C (Ga C (Af (Au (Ah (Gl2 ty48 ?_))))))
 refine Gc0 (Ao call83 C C (CheckGen_ok (Bh hl))) ?_
 refine Ga C (Af (Ah (Gm C (Gr (Be C C) (Af (A6 C (λc12=>?_) (λc12=>?_)))))))
 ·refine Ah (Gm C (Ga C (Ga C (Af (Aq (S2 7 6 C C) (Aw (Ai ?_)))))))
  have hX:(rchG nd es frm set)=[]:=if_pos c12
  exact Co C C C (vc 3 (.slice none (rchG nd es frm set).length 0) (rchG nd es frm set)::I) (by rw [hX];exact Cc (show Fit κ _ I from A0) (Bt (α:=Int) _ _)) ⟨none,0,by rw [hX];rfl,rfl⟩
 ·refine Ay (Aj (Au (Bl mixed (Br (e8 b1 [e7 nd,va] 48::I) 14 (Dr 0 C (Bq (vs:=[_,_]) ty48) ?_)))))
  refine Dr 2 C (Ad C) (Dr 4 C (Ad C) (Dr 6 C (Ab fld48_0 C) (Dr 7 C (As ef) ?_)))
  refine Ds1 1 (Se C (Ao call198 C C (MRows_ok (nd:=nd) (Bh hl))) ?_)
  rintro _ _ ⟨_,_,⟨ad2,cp3,rfl,rfl⟩,rfl,rfl⟩
  refine ⟨A5,?_⟩
  have hrwad2:=rowsB_len nd es
  refine Ds1 3 (Sc0 C (Ao call199 C C (MaskOf_ok (Bh hf))) ?_)
  refine Ds1 5 (Sc0 C (Ao call199 C C (MaskOf_ok (Bh hs))) ?_)
  refine Ds1 8 (Sc0 C (Ao call200 C C (MaskAll_ok nd)) ?_)
  refine Dr 9 C (Cx (a:=maskB set) (b:=allB nd) C C) (Ds1 10 (Se C (Ao call197 C C (MReach_ok Bg (maskB frm) ((maskB set) &&& (allB nd)) (and_all_rows _ (checkG_ok.1 (Classical.not_not.1 c12)).rng) (Cg hT A0))) ?_))
  rintro _ _ ⟨_,_,⟨rfl,rfl⟩,rfl,rfl⟩
  refine ⟨A5,?_⟩
  refine Ds1 11 (Sc2 C (Ao call171 C C (MList_ok (reachB (ek nd es) (maskB frm) ((maskB set) &&& (allB nd))) (Cg hT A0))) λad4 cp5=>?_)
  refine Dr 12 C (Bb C) (Dr 13 C (Bb C) (Dz (Aj (Aq (S2 7 6 C C) (Aw ?_)))))
  have hX:(rchG nd es frm set)=_:=if_neg c12
  have hz:checkG nd es=0:=Classical.not_not.1 c12
  exact Co C C C (vc 3 (.slice ad4 (rchG nd es frm set).length cp5) (rchG nd es frm set)::I) (by rw [hX];exact A5) ⟨ad4,cp5,by rw [hX,hz],rfl⟩
end Go.Sl
namespace Go.Sl
section
variable {P:Program}{κ:Ctx}{N:Frm}{Q:Exit->Act->World->Prop}{L:Env}{I:List Item}
theorem wp_scope_ghost{c rest:Code}{a:Act}{w:World}(l:Nat){σ:Type}(R:σ->Act->World->Prop)(μ:σ->Nat)(hf:findLabel c l=some rest)
  (first:c.wp P (Exit.jump l (λa w=>∃s,R s a w) Q) a w)
  (pass:∀s a w,R s a w->rest.wp P (Exit.jump l (λa' w'=>∃s',R s' a' w'/\μ s'<μ s) Q) a w):(Code.scope c).wp P Q a w:=by
 intro b k cs
 have hg:gotoIn l (.inScope c::k)=some (.code rest :: .inScope c::k):=by simp [gotoIn,hf]
 have key:∀n s a w,μ s=n->R s a w->∃e a' w',Q e a' w'/\Arrives P (lone (b.at a (.code rest :: .inScope c::k)) cs w) b k cs e a' w':=by
  intro n
  induction n using Nat.strongRecOn with
  |_ n ih=>
   intro s a w hn hR
   obtain ⟨e,a₁,w₁,hq,harr⟩:=pass s a w hR b (.inScope c::k) cs
   cases e with
   |normal=>exact ⟨.normal,a₁,w₁,hq,Steps.trans harr (.one step_inScope)⟩
   |exit id=>exact ⟨.exit id,a₁,w₁,hq,λk' hk=>harr k' (by simp [exitTo,hk])⟩
   |goto l'=>
    obtain ⟨rfl,s',hR',hlt⟩:=hq
    obtain ⟨e₂,a₂,w₂,hq₂,harr₂⟩:=ih _ (by omega) s' a₁ w₁ rfl hR'
    exact ⟨e₂,a₂,w₂,hq₂,.of_steps (harr _ hg) harr₂⟩
   |ret=>exact ⟨_,a₁,w₁,hq,harr⟩
   |panic ch=>exact ⟨_,a₁,w₁,hq,harr⟩
   |outgrown=>exact ⟨_,a₁,w₁,hq,harr⟩
 obtain ⟨e,a₁,w₁,hq,harr⟩:=first b (.inScope c::k) cs
 cases e with
 |normal=>exact ⟨.normal,a₁,w₁,hq,.head step_scope (Steps.trans harr (.one step_inScope))⟩
 |exit id=>exact ⟨.exit id,a₁,w₁,hq,λk' hk=> .head step_scope (harr k' (by simp [exitTo,hk]))⟩
 |goto l'=>
  obtain ⟨rfl,s,hR⟩:=hq
  obtain ⟨e₂,a₂,w₂,hq₂,harr₂⟩:=key _ s a₁ w₁ rfl hR
  exact ⟨e₂,a₂,w₂,hq₂,.of_steps (.head step_scope (harr _ hg)) harr₂⟩
 |ret=>exact ⟨_,a₁,w₁,hq,.of_steps (.one step_scope) harr⟩
 |panic ch=>exact ⟨_,a₁,w₁,hq,.of_steps (.one step_scope) harr⟩
 |outgrown=>exact ⟨_,a₁,w₁,hq,.of_steps (.one step_scope) harr⟩
theorem V.jump_ret{l:Nat}{K:Act->World->Prop}(h:V κ N Q .ret L I):V κ N (Exit.jump l K Q) .ret L I:=h
end
end Go.Sl
namespace Go.Sl
section
variable {P:Program}{κ:Ctx}{N:Frm}{Q:Exit->Act->World->Prop}{L:Env}{I:List Item}
theorem W.scope0{c rest:Code}{l:Nat}(hf:findLabel c l=some rest)(h:W P κ N c (Exit.jump l (λ_ _=>∃s:Unit,False) Q) L I):W P κ N (.scope c) Q L I:=λa w ha hs=>
 wp_scope_ghost l (fun (_:Unit) _ _=>False) (λ_=>0) hf (h a w ha hs) λ_ _ _ hR=>hR.elim
theorem W.label{l:Nat}(h:V κ N Q .normal L I):W P κ N (.label l) Q L I:=λa w ha hs=>wp_label (h a w ha hs)
end
end Go.Sl
namespace Go.Sl
open Go.Proofs
set_option maxRecDepth 4000
def coreR0(nd:Int)(es:List Pt):List (Int×Nat):=coreR (ek nd es) (allB ((ek nd es).length:Int)) 0
def coreL(nd:Int)(es:List Pt):List Int:=numL (ek nd es).length (coreR0 nd es)
def coreO(nd:Int)(es:List Pt):List Int:=ordL (coreR0 nd es)
def coreN(nd:Int)(es:List Pt):List Int:=if checkG nd es≠0 then [] else coreL nd es
def coreK(nd:Int)(es:List Pt)(k:Int):List Int:=sideL (coreN nd es).length λv=>decide (k<=e_ (coreN nd es) v)
theorem mem_allN{n:Nat}(h:n<=64){u:Int}:u∈el (allB (n:Int))↔0<=u/\u<n:=by
 constructor
 ·intro hu
  have hr:=listB_lt hu
  rw [Em,getLsb_allB om om om,decide_eq_true_eq] at hu
  omega
 ·intro hu
  rw [Em,getLsb_allB om om om,decide_eq_true_eq]
  omega
theorem coreL_len(nd:Int)(es:List Pt):(coreL nd es).length=(ek nd es).length:=numL_len _ _
theorem ordL_len(l:List (Int×Nat)):(ordL l).length=l.length:=List.length_map ..
theorem bit_sh{v:Int}(h0:0<=v)(h1:v<64):bitB v=1#64 <<< v.toNat:=by unfold bitB;rw [if_neg om]
theorem deg_full{n:Nat}{rows:List (BitVec 64)}(h:SymB n rows){k:Int}(h0:0<=k)(h1:k<n):onesB (e_ rows k)=((degB rows (allB (n:Int)) k:Nat):Int):=by
 rw [ones_pop]
 unfold degB
 congr 1
 refine ((List.perm_ext_iff_of_nodup (listB_nodup _) (listB_nodup _)).2 λu=>?_).length_eq
 rw [mem_andB]
 refine ⟨λhu=>⟨hu,(mem_allN h.le).2 ⟨(listB_lt hu).1,h.lt k u h0 h1 hu⟩⟩,λhu=>hu.1⟩
theorem rows_sym{nd:Int}{es:List Pt}(hG:GrOk nd es):SymB (ek nd es).length (ek nd es):=by
 have h:=hG.rows.symB hG
 have e:=h.len
 rw [←e] at h;exact h
theorem core_step{rows:List (BitVec 64)}{left:BitVec 64}{kk dd:Nat}{v:Int}{done:List (Int×Nat)}{all:List (Int×Nat)}(hc:done++coreR rows left kk=all)(hT:Takes rows left v)(hd:degB rows left v=dd) :
  (done++[(v,max kk dd)])++coreR rows (left &&& ~~~(1#64 <<< v.toNat)) (max kk dd)=all:=by
 rw [←hc,coreR_step hT,hd,List.append_assoc];rfl
theorem cnt_allN{n:Nat}(h:n<=64):(el (allB (n:Int))).length=n:=by
 have hp:(el (allB (n:Int))).Perm ((List.range n).map fun (i:Nat)=>(i:Int)):=(List.perm_ext_iff_of_nodup (listB_nodup _) (by
  exact List.Pairwise.map _ (λa b h=>by omega) (List.nodup_range (n:=n)))).2 λu=>by
  rw [mem_allN h,List.mem_map]
  constructor
  ·intro hu;exact ⟨u.toNat,List.mem_range.2 om,by omega⟩
  ·rintro ⟨i,hi,rfl⟩;have:=List.mem_range.1 hi;omega
 have:=hp.length_eq
 rwa [List.length_map,List.length_range] at this
set_option maxHeartbeats 2000000 in
theorem CPeel_ok{κ:Ctx}{I:List Item}{nd:Int}{va:Value}{es:List Pt}(hl:Sl κ I va es)(hG:GrOk nd es)(hT:TabRd κ I 0 tzCells):ep prog κ 175 [.agg #[e7 nd,va]] I (λr J=>∃a c a' c',r = .tuple #[.slice a (coreO nd es).length c,.slice a' (coreL nd es).length c']/\J=vc 3 (.slice a (coreO nd es).length c) (coreO nd es)::vc 3 (.slice a' (coreL nd es).length c') (coreL nd es)::I):=by
 have hS:=rows_sym hG
 have hS64:=hS.le
 refine Ce1 Tryz.func175 C C ?_
 refine Ah (Ge1 (Bc (cs:=[_,_]) C C C) λb1=>Ga C (Ga C (Af (W.scope0 (l:=0) C ?_))))
 refine Ah (Gl2 ty48 ?_)
 refine G.e (Ao call198 C C (MRows_ok (nd:=nd) (Bh hl))) ?_
 rintro _ _ ⟨_,_,⟨ad2,cp3,rfl,rfl⟩,rfl,rfl⟩
 have hrwad2:=rowsB_len nd es
 refine Ga C (Af (Ah (Ge1 (A8 ty264 C) λb4=>?_)))
 show G prog κ _ _ _ _ ([(5,.pointer (some ⟨b4,0,none⟩)),(4,.slice ad2 (ek nd es).length cp3),(16,.slice ad2 (ek nd es).length cp3),(15,.agg #[e7 nd,va]),(3,.slice none 0 0),(2,.slice none 0 0),(1,.pointer (some ⟨b1,0,none⟩)),(0,.agg #[e7 nd,va])]:Env) (e8 b4 (cells (replicate 64 (0#64):List (BitVec 64))) 264::vc 175 (.slice ad2 (ek nd es).length cp3) (ek nd es)::e8 b1 [e7 nd,va] 48::I)
 refine Af (Ah (Gm C (Gr (Bm Cf C) (Ge2 (Cj (α:=Int) (n:=(ek nd es).length) Ac ef C C C om om dc C) λad5 cp6=>?_))))
 refine Ga C (Af (Au (Ah (Gm C (Gr (Bm Cf C) (Gm C (Af (Aq (S7 22 21 20 6 5 4 2 C C C C C C C) (A4 (Bu (σ:=Nat×(List Int)×(List (BitVec 64))) (λs=>([(2,.slice none 0 0),(4,.slice ad2 (ek nd es).length cp3),(5,.pointer (some ⟨b4,0,none⟩)),(6,.slice ad5 (replicate ((ek nd es).length) (default:Int)).length cp6),(20,.slice ad2 (ek nd es).length cp3),(21,e7 ((((ek nd es).length:Nat):Int))),(22,e7 ((s.1:Nat):Int))]:Env)) (λs=>vc 3 (.slice ad5 (replicate ((ek nd es).length) (default:Int)).length cp6) (s.2.1)::e8 b4 (cells (s.2.2:List (BitVec 64))) 264::vc 175 (.slice ad2 (ek nd es).length cp3) (ek nd es)::e8 b1 [e7 nd,va] 48::I) (λs=>(s.1<=(ek nd es).length)/\(BkOk (ek nd es).length (λu=>0<=u/\u<((s.1:Nat):Int)) (degB (ek nd es) (allB ((ek nd es).length:Int))) s.2.1 s.2.2)) (λs=>(ek nd es).length - s.1) (0,replicate ((ek nd es).length) (default:Int),replicate 64 (0#64)) (show ((0:Nat)<=(ek nd es).length)/\(BkOk (ek nd es).length (λu=>0<=u/\u<(((0:Nat):Nat):Int)) (degB (ek nd es) (allB ((ek nd es).length:Int))) (replicate ((ek nd es).length) (default:Int):List Int) (replicate 64 (0#64):List (BitVec 64))) from ⟨om,(BkOk.start _ _)⟩) (Aa C (Aa C (Aa C (Aa C (Aa C (Aa C (Aa B9 Bj))))))) (show Fit κ _ (vc 3 (.slice ad5 (replicate ((ek nd es).length) (default:Int)).length cp6) ((replicate ((ek nd es).length) (default:Int)))::e8 b4 (cells ((replicate 64 (0#64)):List (BitVec 64))) 264::vc 175 (.slice ad2 (ek nd es).length cp3) (ek nd es)::e8 b1 [e7 nd,va] 48::I) from A5) ?_))))))))))
 rintro ⟨k,dgs,bks⟩ hp
 dsimp only at hp ⊢
 obtain ⟨hk,hB⟩:=hp
 have hdl:=hB.dlen
 have hbl:=hB.blen
 have hon:k<(ek nd es).length->onesB (e_ (ek nd es) k)=((degB (ek nd es) (allB ((ek nd es).length:Int)) (k:Int):Nat):Int):=λh=>deg_full hS om om
 have hd64:k<(ek nd es).length->((degB (ek nd es) (allB ((ek nd es).length:Int)) (k:Int):Nat):Int)<64:=λh=>by have:=degB_lt hS (allB ((ek nd es).length:Int)) (v:=(k:Int)) om om;omega
 refine Ah (Gr (A9 C C) (Af (Au (A6 C (λc23=>?_) (λc23=>?_)))))
 ·refine Ay (Aj (Au (A4 (Ah (Gm C (Gr (A3 (α:=(BitVec 64)) (xs:=ek nd es) Cf ty175 C C Bg om oo) (Gr (C8 (α:=(BitVec 64)) (xs:=ek nd es) (u:=U64 ((e_ (ek nd es) k))) ty175 C Bg om oo C) (Ga C (Ga C (Af (Ah (Gm C (Gm C (Gm C (Gc0 (Ao call219 C C (MCount_ok (e_ (ek nd es) k))) ?_)))))))))))))))
  refine Gr (A3 (α:=Int) (xs:=dgs) Ac ef C C Bg om oo) (Ge0 (Cs (α:=Int) (xs:=dgs) (e:=3) (new:=onesB (e_ (ek nd es) k)) ef C C C om oo am) ?_)
  have hon1:=hon om
  have hd641:=hd64 om
  have hset:e_ (List.set dgs ((k:Int)).toNat (onesB (e_ (ek nd es) k))) (k:Int)=((degB (ek nd es) (allB ((ek nd es).length:Int)) (k:Int):Nat):Int):=by rw [Da _ _ _ _ om om om,if_pos rfl,hon1]
  refine Af (Aq (S8 7 2 4 5 6 20 21 22 C C C C C C C C) (Bl mixed (Br (vc 3 (.slice ad5 (replicate ((ek nd es).length) (default:Int)).length cp6) (List.set dgs ((k:Int)).toNat (onesB (e_ (ek nd es) k)))::e8 b4 (cells (bks:List (BitVec 64))) 264::vc 175 (.slice ad2 (ek nd es).length cp3) (ek nd es)::e8 b1 [e7 nd,va] 48::I) 10 (Dr 0 C (Ad C) (Dr 1 C (Ad C) (Dr 2 C (A3 (α:=Int) (xs:=List.set dgs ((k:Int)).toNat (onesB (e_ (ek nd es) k))) Ac ef C C Bg om oo) (Dr 3 C (Bz (xs:=List.set dgs ((k:Int)).toNat (onesB (e_ (ek nd es) k))) ef C Bg om oo) (Dr 4 C (Cl Cv ty175 C C om oo) (Dr 5 C (E5 (xs:=bks) ty175 C (Dv mm) om oo) (Dr 6 C (Ad C) (Ds1 7 (Se C (Ao call237 C C (Bit_ok (k:Int))) ?_))))))))))))
  rintro _ _ ⟨_,_,⟨rfl,rfl⟩,rfl,rfl⟩
  refine ⟨A0,?_⟩
  refine Dr 8 C (Ez (a:=e_ bks (e_ (List.set dgs ((k:Int)).toNat (onesB (e_ (ek nd es) k))) (k:Int))) (b:=bitB (k:Int)) C C) (Dr 9 C (Cl Cv ty175 C C om oo) (Dg kr ?_))
  refine Ae 10 C (Eff.setAU (xs:=bks) (i:=e_ (List.set dgs ((k:Int)).toNat (onesB (e_ (ek nd es) k))) (k:Int)) (n:=(e_ bks (e_ (List.set dgs ((k:Int)).toNat (onesB (e_ (ek nd es) k))) (k:Int))) ||| (bitB (k:Int))) ty175 C C C om oo am) ?_
  rintro _ _ ⟨rfl,rfl⟩
  refine Dh kr ?_
  exact Ak (Aj (Aq (S7 2 4 5 6 20 21 22 C C C C C C C) (Ax (Gr (Rad C C) (Gm C (Bd (B2 ((k+1),(List.set dgs ((k:Int)).toNat (onesB (e_ (ek nd es) k))),(List.set bks (e_ (List.set dgs ((k:Int)).toNat (onesB (e_ (ek nd es) k))) (k:Int)).toNat ((e_ bks (e_ (List.set dgs ((k:Int)).toNat (onesB (e_ (ek nd es) k))) (k:Int))) ||| (bitB (k:Int))))) (by dsimp only;exact ⟨om,(by have hN:=hB.push (S':=λu=>0<=u/\u<((k+1:Nat):Int)) (v:=(k:Int)) (c:=((degB (ek nd es) (allB ((ek nd es).length:Int)) (k:Int):Nat):Int)) om om om (λu=>by constructor<;>intro h<;>omega) (λh=>by omega) C (hd64 om);rw [hset,hon om,bit_sh om om];exact hN)⟩))))))))
 ·refine Bs (Ap (Ap (A7 (Aj (Ah (Gm C (Gr (Bm Cf C) (Ge2 (Cj (α:=Int) (n:=(ek nd es).length) Ac ef C C C om om dc C) λad7 cp8=>?_))))))))
  refine Ga C (Af (Ah (Gm C (Gr (Bm Cf C) (Gc0 (Ao call200 C C (MaskAll_ok (((ek nd es).length:Nat):Int))) ?_)))))
  refine Ga C (Af (Aq (S6 9 3 2 4 5 6 C C C C C C) (Ah (Ga C (Af (Au (W.label ?_)))))))
  refine Aj (Au (A4 (Bu (σ:=(List (Int×Nat))×(BitVec 64)×Nat×(List Int)×(List (BitVec 64))×(Option Addr)×Nat) (λs=>([(2,.slice s.2.2.2.2.2.1 (ordL s.1).length s.2.2.2.2.2.2),(3,.slice ad7 (replicate ((ek nd es).length) (default:Int)).length cp8),(4,.slice ad2 (ek nd es).length cp3),(5,.pointer (some ⟨b4,0,none⟩)),(6,.slice ad5 (replicate ((ek nd es).length) (default:Int)).length cp6),(9,U64 (s.2.1)),(10,e7 ((s.2.2.1:Nat):Int))]:Env)) (λs=>vc 3 (.slice s.2.2.2.2.2.1 (ordL s.1).length s.2.2.2.2.2.2) (ordL s.1)::vc 3 (.slice ad7 (replicate ((ek nd es).length) (default:Int)).length cp8) (numL (ek nd es).length s.1)::vc 3 (.slice ad5 (replicate ((ek nd es).length) (default:Int)).length cp6) (s.2.2.2.1)::e8 b4 (cells (s.2.2.2.2.1:List (BitVec 64))) 264::vc 175 (.slice ad2 (ek nd es).length cp3) (ek nd es)::e8 b1 [e7 nd,va] 48::I) (λs=>(s.1++coreR (ek nd es) s.2.1 s.2.2.1=coreR0 nd es)/\(BkOk (ek nd es).length (λu=>u∈el s.2.1) (degB (ek nd es) s.2.1) s.2.2.2.1 s.2.2.2.2.1)/\(s.1.length+(el s.2.1).length=(ek nd es).length)/\(s.2.2.1<=63)) (λs=>(el s.2.1).length) ([],(allB ((ek nd es).length:Int)),0,dgs,bks,none,0) (show (([]:List (Int×Nat))++coreR (ek nd es) ((allB ((ek nd es).length:Int)):BitVec 64) (0:Nat)=coreR0 nd es)/\(BkOk (ek nd es).length (λu=>u∈el ((allB ((ek nd es).length:Int)):BitVec 64)) (degB (ek nd es) ((allB ((ek nd es).length:Int)):BitVec 64)) (dgs:List Int) (bks:List (BitVec 64)))/\(([]:List (Int×Nat)).length+(el ((allB ((ek nd es).length:Int)):BitVec 64)).length=(ek nd es).length)/\((0:Nat)<=63) from ⟨rfl,(hB.congr (λu=>(mem_allN hS.le).trans (by constructor<;>intro h<;>omega)) (λu _=>rfl)),(by have:(el (allB ((ek nd es).length:Int))).length=(ek nd es).length:=cnt_allN hS.le;simp only [List.length_nil];omega),om⟩) (Aa (Cr C (by first|rfl|(rw [ordL_snoc])|simp)) (Aa C (Aa C (Aa C (Aa C (Aa (Cr C (by first|rfl|(rw [ordL_snoc])|simp)) (Aa B9 Bj))))))) (show Fit κ _ (vc 3 (.slice none (ordL ([])).length 0) (ordL ([]))::vc 3 (.slice ad7 (replicate ((ek nd es).length) (default:Int)).length cp8) (numL (ek nd es).length ([]))::vc 3 (.slice ad5 (replicate ((ek nd es).length) (default:Int)).length cp6) ((dgs))::e8 b4 (cells ((bks):List (BitVec 64))) 264::vc 175 (.slice ad2 (ek nd es).length cp3) (ek nd es)::e8 b1 [e7 nd,va] 48::I) from (Cc (Bt (α:=Int) _ _) B4)) ?_)))
  rintro ⟨done,left,kk,dgs2,bks2,ao,co⟩ hp
  dsimp only at hp ⊢
  obtain ⟨hc,hB2,hln,hkk⟩:=hp
  have hdl2:=hB2.dlen
  have hbl2:=hB2.blen
  have hold:=ordL_len done
  have hnl:=numL_len (ek nd es).length done
  have hdg64:∀u∈el left,degB (ek nd es) left u<64:=λu hu=>by have hr:=hB2.rng u hu;have:=degB_lt hS left hr.1 hr.2;omega
  refine Au (Ah (Gm C (Gr (Er (a:=left) (b:=0#64) C C) (Af (A6 C (λc50=>?_) (λc50=>?_))))))
  ·refine Ay (Aj (A4 (Ah (Gm C (Af (A4 (Bu (σ:=Nat) (λs=>([(2,.slice ao (ordL done).length co),(3,.slice ad7 (replicate ((ek nd es).length) (default:Int)).length cp8),(4,.slice ad2 (ek nd es).length cp3),(5,.pointer (some ⟨b4,0,none⟩)),(6,.slice ad5 (replicate ((ek nd es).length) (default:Int)).length cp6),(9,U64 left),(10,e7 ((kk:Int))),(51,e7 ((s:Nat):Int))]:Env)) (λs=>vc 3 (.slice ao (ordL done).length co) (ordL done)::vc 3 (.slice ad7 (replicate ((ek nd es).length) (default:Int)).length cp8) (numL (ek nd es).length done)::vc 3 (.slice ad5 (replicate ((ek nd es).length) (default:Int)).length cp6) (dgs2)::e8 b4 (cells (bks2:List (BitVec 64))) 264::vc 175 (.slice ad2 (ek nd es).length cp3) (ek nd es)::e8 b1 [e7 nd,va] 48::I) (λs=>(s<=64)/\(∀c:Int,0<=c->c<((s:Nat):Int)->e_ bks2 c=0#64)) (λs=>64 - s) 0 (show ((0:Nat)<=64)/\(∀c:Int,0<=c->c<(((0:Nat):Nat):Int)->e_ bks2 c=0#64) from ⟨om,(λc h1 h2=>by omega)⟩) (Aa C (Aa C (Aa C (Aa C (Aa C (Aa C (Aa C (Aa B9 Bj)))))))) (show Fit κ _ (vc 3 (.slice ao (ordL done).length co) (ordL done)::vc 3 (.slice ad7 (replicate ((ek nd es).length) (default:Int)).length cp8) (numL (ek nd es).length done)::vc 3 (.slice ad5 (replicate ((ek nd es).length) (default:Int)).length cp6) (dgs2)::e8 b4 (cells (bks2:List (BitVec 64))) 264::vc 175 (.slice ad2 (ek nd es).length cp3) (ek nd es)::e8 b1 [e7 nd,va] 48::I) from A5) ?_)))))))
   rintro dd hp
   obtain ⟨hdd,hz⟩:=hp
   refine Ah (Gr (A9 C C) (Af (Au (A6 C (λc52=>?_) (λc52=>?_)))))
   ·refine Ay (Aj (Au (A4 (Ah (Gm C (Ga C (Af (Au (Ah (Gm C (Gr (Cl Cv ty175 C C om oo) (Gr (E5 (xs:=bks2) ty175 C (Dv mm) om oo) (Gr (Runs.eqB (a:=e_ bks2 dd) (b:=0#64) C C) (Af (Aq (S10 57 11 2 3 4 5 6 9 10 51 C C C C C C C C C C) (A6 C (λc57=>?_) (λc57=>?_)))))))))))))))))
    ·exact Bs (Ap (A7 (Aj (Ax (Gr (Rad C C) (Gm C (Bd (B2 ((dd+1)) ⟨om,(λc h1 h2=>by by_cases e:c=(dd:Int);(· rw [e];assumption);(· exact hz c h1 om))⟩))))))))
    ·refine Ay (Aj (Ah (Gm C (Gr (Cl Cv ty175 C C om oo) (Gr (E5 (xs:=bks2) ty175 C (Dv mm) om oo) (Gc0 (Ao call238 C C (Least_ok (e_ bks2 dd) (Cg hT A0))) ?_))))))
     have hTT:=hB2.takes (d:=(dd:Int)) om om c57 hz hdg64
     generalize hvE:tzB (e_ bks2 dd)=v at hTT ⊢
     obtain ⟨hTk,hdv⟩:=hTT
     have hvm:=hTk.mem
     have hvr:=hB2.rng v hvm
     refine Ga C (Af (Aq (S9 12 11 2 3 4 5 6 9 10 C C C C C C C C C) (Ah (Gm C (Gm C (Gr (D2 C C) ?_))))))
     have hmx:(if (kk:Int)<(dd:Int) then (dd:Int) else (kk:Int))=(((max kk dd):Nat):Int):=by split<;>omega
     rw [hmx]
     refine Ga C (Af (Aq (S9 10 12 11 2 3 4 5 6 9 C C C C C C C C C) (Ah (Gm C (Gm C (Gm C (Gr (A3 (α:=Int) (xs:=numL (ek nd es).length done) Ac ef C C Bg om oo) (Ge0 (Cs (α:=Int) (xs:=numL (ek nd es).length done) (e:=3) (new:=(((max kk dd):Nat):Int)) ef C C C om oo am) ?_))))))))
     refine Af (Ah (Gm C (Gm C (Ge1 (B0 (α:=Int) (cs:=[_]) (xs:=[v]) Ac ef C C dc dc C C C C) λad9=>?_))))
     refine Ge2 (B1 (α:=Int) (e:=3) (xs:=ordL done) (ys:=([v]:List Int)) Ac ef C C C mm Bg lcn dc C (λ_ _=>am)) λad10 cp11=>?_
     refine Ga C (Af (Aq (S9 2 10 12 11 3 4 5 6 9 C C C C C C C C C) (Ah (Gm C (Gm C (G.e (Ao call237 C C (Bit_ok v)) ?_))))))
     rintro _ _ ⟨_,_,⟨rfl,rfl⟩,rfl,rfl⟩
     rw [show bitB v=1#64 <<< (v).toNat from bit_sh om om]
     refine Gr (Ek (a:=left) (b:=1#64 <<< (v).toNat) C C) (Ga C (Af (Aq (S9 9 2 10 12 11 3 4 5 6 C C C C C C C C C) (Au (Bl mixed (Br (vc 3 (.slice ad9 1 1) (([v]:List Int))::vc 3 (.slice ad10 ((ordL done)++([v]:List Int)).length cp11) ((ordL done)++([v]:List Int))::vc 3 (.slice ad7 (replicate ((ek nd es).length) (default:Int)).length cp8) (List.set (numL (ek nd es).length done) (v).toNat ((((max kk dd):Nat):Int)))::vc 3 (.slice ad5 (replicate ((ek nd es).length) (default:Int)).length cp6) (dgs2)::e8 b4 (cells (bks2:List (BitVec 64))) 264::vc 175 (.slice ad2 (ek nd es).length cp3) (ek nd es)::e8 b1 [e7 nd,va] 48::I) 7 (Dr 0 C (Ad C) (Dr 1 C (Cl Cv ty175 C C om oo) (Dr 2 C (E5 (xs:=bks2) ty175 C (Dv mm) om oo) (Dr 3 C (Ad C) (Ds1 4 (Se C (Ao call237 C C (Bit_ok v)) ?_))))))))))))
     rintro _ _ ⟨_,_,⟨rfl,rfl⟩,rfl,rfl⟩
     refine ⟨A0,?_⟩
     rw [show bitB v=1#64 <<< (v).toNat from bit_sh om om]
     refine Dr 5 C (Ek (a:=e_ bks2 dd) (b:=1#64 <<< (v).toNat) C C) (Dr 6 C (Cl Cv ty175 C C om oo) (Dg kr ?_))
     refine Ae 7 C (Eff.setAU (xs:=bks2) (i:=(dd:Int)) (n:=(e_ bks2 dd) &&& ~~~(1#64 <<< (v).toNat)) ty175 C C C om oo am) ?_
     rintro _ _ ⟨rfl,rfl⟩
     refine Dh kr ?_
     refine Aj (Aq (S8 9 2 10 12 3 4 5 6 C C C C C C C C) (Au (Ah (Gm C (Gm C (Gr (A3 (α:=(BitVec 64)) (xs:=ek nd es) Cf ty175 C C Bg om oo) (Gr (C8 (α:=(BitVec 64)) (xs:=ek nd es) (u:=U64 ((e_ (ek nd es) v))) ty175 C Bg om oo C) (Gm C (Gr (Cx (a:=(e_ (ek nd es) v)) (b:=left &&& ~~~(1#64 <<< (v).toNat)) C C) (Gc2 (Ao call171 C C (MList_ok ((e_ (ek nd es) v) &&& (left &&& ~~~(1#64 <<< (v).toNat))) (Cg hT A0))) λad12 cp13=>?_))))))))))
     refine Gr (Bm Ac C) (Gm C (Af (Aq (S10 92 91 90 9 2 10 3 4 5 6 C C C C C C C C C C) (A4 (Bu (σ:=Nat×(List Int)×(List (BitVec 64))) (λs=>([(2,.slice ad10 ((ordL done)++([v]:List Int)).length cp11),(3,.slice ad7 (replicate ((ek nd es).length) (default:Int)).length cp8),(4,.slice ad2 (ek nd es).length cp3),(5,.pointer (some ⟨b4,0,none⟩)),(6,.slice ad5 (replicate ((ek nd es).length) (default:Int)).length cp6),(9,U64 (left &&& ~~~(1#64 <<< (v).toNat))),(10,e7 ((((max kk dd):Nat):Int))),(90,.slice ad12 (el ((e_ (ek nd es) v) &&& (left &&& ~~~(1#64 <<< (v).toNat)))).length cp13),(91,e7 ((((el ((e_ (ek nd es) v) &&& (left &&& ~~~(1#64 <<< (v).toNat)))).length:Nat):Int))),(92,e7 ((s.1:Nat):Int))]:Env)) (λs=>vc 3 (.slice ad12 (el ((e_ (ek nd es) v) &&& (left &&& ~~~(1#64 <<< (v).toNat)))).length cp13) (el ((e_ (ek nd es) v) &&& (left &&& ~~~(1#64 <<< (v).toNat))))::vc 3 (.slice ad9 1 1) (([v]:List Int))::vc 3 (.slice ad10 ((ordL done)++([v]:List Int)).length cp11) ((ordL done)++([v]:List Int))::vc 3 (.slice ad7 (replicate ((ek nd es).length) (default:Int)).length cp8) (List.set (numL (ek nd es).length done) (v).toNat ((((max kk dd):Nat):Int)))::vc 3 (.slice ad5 (replicate ((ek nd es).length) (default:Int)).length cp6) (s.2.1)::e8 b4 (cells (s.2.2:List (BitVec 64))) 264::vc 175 (.slice ad2 (ek nd es).length cp3) (ek nd es)::e8 b1 [e7 nd,va] 48::I) (λs=>(s.1<=(el (e_ (ek nd es) v &&& (left &&& ~~~(1#64 <<< (v).toNat)))).length)/\(BkOk (ek nd es).length (λu=>u∈el (left &&& ~~~(1#64 <<< (v).toNat))) (degM (ek nd es) left (el (e_ (ek nd es) v &&& (left &&& ~~~(1#64 <<< (v).toNat)))) s.1) s.2.1 s.2.2)) (λs=>(el (e_ (ek nd es) v &&& (left &&& ~~~(1#64 <<< (v).toNat)))).length - s.1) (0,dgs2,List.set bks2 ((dd:Int)).toNat ((e_ bks2 dd) &&& ~~~(1#64 <<< (v).toNat))) (show ((0:Nat)<=(el (e_ (ek nd es) v &&& (left &&& ~~~(1#64 <<< (v).toNat)))).length)/\(BkOk (ek nd es).length (λu=>u∈el (left &&& ~~~(1#64 <<< (v).toNat))) (degM (ek nd es) left (el (e_ (ek nd es) v &&& (left &&& ~~~(1#64 <<< (v).toNat)))) (0:Nat)) (dgs2:List Int) (List.set bks2 ((dd:Int)).toNat ((e_ bks2 dd) &&& ~~~(1#64 <<< (v).toNat)):List (BitVec 64))) from ⟨om,((hB2.drop hvm hdv om (λu=>mem_minus om)).congr (λu=>Iff.rfl) (λu _=>degM_zero _ _ _ u))⟩) (Aa C (Aa C (Aa C (Aa C (Aa C (Aa C (Aa C (Aa C (Aa C (Aa B9 Bj)))))))))) (show Fit κ _ (vc 3 (.slice ad12 (el ((e_ (ek nd es) v) &&& (left &&& ~~~(1#64 <<< (v).toNat)))).length cp13) (el ((e_ (ek nd es) v) &&& (left &&& ~~~(1#64 <<< (v).toNat))))::vc 3 (.slice ad9 1 1) (([v]:List Int))::vc 3 (.slice ad10 ((ordL done)++([v]:List Int)).length cp11) ((ordL done)++([v]:List Int))::vc 3 (.slice ad7 (replicate ((ek nd es).length) (default:Int)).length cp8) (List.set (numL (ek nd es).length done) (v).toNat ((((max kk dd):Nat):Int)))::vc 3 (.slice ad5 (replicate ((ek nd es).length) (default:Int)).length cp6) ((dgs2))::e8 b4 (cells ((List.set bks2 ((dd:Int)).toNat ((e_ bks2 dd) &&& ~~~(1#64 <<< (v).toNat))):List (BitVec 64))) 264::vc 175 (.slice ad2 (ek nd es).length cp3) (ek nd es)::e8 b1 [e7 nd,va] 48::I) from A5) ?_)))))
     rintro ⟨j,dgs1,bks1⟩ hp
     dsimp only at hp ⊢
     obtain ⟨hj,hB1⟩:=hp
     have hdl1:=hB1.dlen
     have hbl1:=hB1.blen
     have hwsl:(el (e_ (ek nd es) v &&& (left &&& ~~~(1#64 <<< (v).toNat)))).length<=64:=listB_len _
     have hwj:j<(el (e_ (ek nd es) v &&& (left &&& ~~~(1#64 <<< (v).toNat)))).length->(e_ (el (e_ (ek nd es) v &&& (left &&& ~~~(1#64 <<< (v).toNat)))) (j:Int))∈el (left &&& ~~~(1#64 <<< (v).toNat))/\(e_ (el (e_ (ek nd es) v &&& (left &&& ~~~(1#64 <<< (v).toNat)))) (j:Int))∈el (e_ (ek nd es) v):=λh=>by have h1:=Ca (xs:=(el (e_ (ek nd es) v &&& (left &&& ~~~(1#64 <<< (v).toNat))))) (i:=(j:Int)) om om;exact ⟨(mem_andB.1 h1).2,(mem_andB.1 h1).1⟩
     refine Ah (Gr (A9 C C) (Af (Au (A6 C (λc93=>?_) (λc93=>?_)))))
     ·refine Ay (Aj (Au (A4 (Ah (Gr (A3 (α:=Int) (xs:=el ((e_ (ek nd es) v) &&& (left &&& ~~~(1#64 <<< (v).toNat)))) Ac ef C C Bg om oo) (Gr (Bz (xs:=el ((e_ (ek nd es) v) &&& (left &&& ~~~(1#64 <<< (v).toNat)))) ef C Bg om oo) (Ga C ?_)))))))
      have hwm:=hwj om
      have hwr:=hB1.rng (e_ (el (e_ (ek nd es) v &&& (left &&& ~~~(1#64 <<< (v).toNat)))) (j:Int)) hwm.1
      have hdeg0:=hB1.deg (e_ (el (e_ (ek nd es) v &&& (left &&& ~~~(1#64 <<< (v).toNat)))) (j:Int)) hwm.1
      have hdeg:=hdeg0
      have hnow:=degM_now (rows:=ek nd es) (left:=left) (ws:=(el (e_ (ek nd es) v &&& (left &&& ~~~(1#64 <<< (v).toNat))))) (j:=j) om (listB_nodup _)
      have hlw:(e_ (el (e_ (ek nd es) v &&& (left &&& ~~~(1#64 <<< (v).toNat)))) (j:Int))∈el left:=((mem_minus om).1 hwm.1).1
      have hw64:=hdg64 (e_ (el (e_ (ek nd es) v &&& (left &&& ~~~(1#64 <<< (v).toNat)))) (j:Int)) hlw
      have hw1:1<=degB (ek nd es) left (e_ (el (e_ (ek nd es) v &&& (left &&& ~~~(1#64 <<< (v).toNat)))) (j:Int)):=List.length_pos_of_mem (mem_andB.2 ⟨hS.sym v (e_ (el (e_ (ek nd es) v &&& (left &&& ~~~(1#64 <<< (v).toNat)))) (j:Int)) om om hwm.2,hvm⟩)
      rw [hnow] at hdeg
      refine Af (Aq (S11 14 2 3 4 5 6 9 10 90 91 92 C C C C C C C C C C C) (Au (Bl mixed (Br (vc 3 (.slice ad12 (el ((e_ (ek nd es) v) &&& (left &&& ~~~(1#64 <<< (v).toNat)))).length cp13) (el ((e_ (ek nd es) v) &&& (left &&& ~~~(1#64 <<< (v).toNat))))::vc 3 (.slice ad9 1 1) (([v]:List Int))::vc 3 (.slice ad10 ((ordL done)++([v]:List Int)).length cp11) ((ordL done)++([v]:List Int))::vc 3 (.slice ad7 (replicate ((ek nd es).length) (default:Int)).length cp8) (List.set (numL (ek nd es).length done) (v).toNat ((((max kk dd):Nat):Int)))::vc 3 (.slice ad5 (replicate ((ek nd es).length) (default:Int)).length cp6) (dgs1)::e8 b4 (cells (bks1:List (BitVec 64))) 264::vc 175 (.slice ad2 (ek nd es).length cp3) (ek nd es)::e8 b1 [e7 nd,va] 48::I) 10 (Dr 0 C (Ad C) (Dr 1 C (Ad C) (Dr 2 C (A3 (α:=Int) (xs:=dgs1) Ac ef C C Bg om oo) (Dr 3 C (Bz (xs:=dgs1) ef C Bg om oo) (Dr 4 C (Cl Cv ty175 C C om oo) (Dr 5 C (E5 (xs:=bks1) ty175 C (Dv mm) om oo) (Dr 6 C (Ad C) (Ds1 7 (Se C (Ao call237 C C (Bit_ok (e_ (el ((e_ (ek nd es) v) &&& (left &&& ~~~(1#64 <<< (v).toNat)))) (j:Int)))) ?_)))))))))))))
      rintro _ _ ⟨_,_,⟨rfl,rfl⟩,rfl,rfl⟩
      refine ⟨A0,?_⟩
      refine Dr 8 C (Ek (a:=e_ bks1 (e_ dgs1 (e_ (el ((e_ (ek nd es) v) &&& (left &&& ~~~(1#64 <<< (v).toNat)))) (j:Int)))) (b:=bitB (e_ (el ((e_ (ek nd es) v) &&& (left &&& ~~~(1#64 <<< (v).toNat)))) (j:Int))) C C) (Dr 9 C (Cl Cv ty175 C C om oo) (Dg kr ?_))
      refine Ae 10 C (Eff.setAU (xs:=bks1) (i:=e_ dgs1 (e_ (el ((e_ (ek nd es) v) &&& (left &&& ~~~(1#64 <<< (v).toNat)))) (j:Int))) (n:=(e_ bks1 (e_ dgs1 (e_ (el ((e_ (ek nd es) v) &&& (left &&& ~~~(1#64 <<< (v).toNat)))) (j:Int)))) &&& ~~~(bitB (e_ (el ((e_ (ek nd es) v) &&& (left &&& ~~~(1#64 <<< (v).toNat)))) (j:Int)))) ty175 C C C om oo am) ?_
      rintro _ _ ⟨rfl,rfl⟩
      refine Dh kr ?_
      refine Aj (Aq (S11 14 2 3 4 5 6 9 10 90 91 92 C C C C C C C C C C C) (Ah (Gm C (Gm C (Gr (A3 (α:=Int) (xs:=dgs1) Ac ef C C Bg om oo) (Gr (Bz (xs:=dgs1) ef C Bg om oo) (Gr (Rsu C C) (Gr (A3 (α:=Int) (xs:=dgs1) Ac ef C C Bg om oo) (Ge0 (Cs (α:=Int) (xs:=dgs1) (e:=3) (new:=(e_ dgs1 (e_ (el ((e_ (ek nd es) v) &&& (left &&& ~~~(1#64 <<< (v).toNat)))) (j:Int))) - 1) ef C C C om oo am) ?_)))))))))
      have hset2:e_ (List.set dgs1 (e_ (el ((e_ (ek nd es) v) &&& (left &&& ~~~(1#64 <<< (v).toNat)))) (j:Int)).toNat ((e_ dgs1 (e_ (el ((e_ (ek nd es) v) &&& (left &&& ~~~(1#64 <<< (v).toNat)))) (j:Int))) - 1)) (e_ (el (e_ (ek nd es) v &&& (left &&& ~~~(1#64 <<< (v).toNat)))) (j:Int))=e_ dgs1 (e_ (el (e_ (ek nd es) v &&& (left &&& ~~~(1#64 <<< (v).toNat)))) (j:Int)) - 1:=by rw [Da _ _ _ _ om om om,if_pos rfl]
      refine Af (Aq (S11 14 2 3 4 5 6 9 10 90 91 92 C C C C C C C C C C C) (Bl mixed (Br (vc 3 (.slice ad12 (el ((e_ (ek nd es) v) &&& (left &&& ~~~(1#64 <<< (v).toNat)))).length cp13) (el ((e_ (ek nd es) v) &&& (left &&& ~~~(1#64 <<< (v).toNat))))::vc 3 (.slice ad9 1 1) (([v]:List Int))::vc 3 (.slice ad10 ((ordL done)++([v]:List Int)).length cp11) ((ordL done)++([v]:List Int))::vc 3 (.slice ad7 (replicate ((ek nd es).length) (default:Int)).length cp8) (List.set (numL (ek nd es).length done) (v).toNat ((((max kk dd):Nat):Int)))::vc 3 (.slice ad5 (replicate ((ek nd es).length) (default:Int)).length cp6) (List.set dgs1 (e_ (el ((e_ (ek nd es) v) &&& (left &&& ~~~(1#64 <<< (v).toNat)))) (j:Int)).toNat ((e_ dgs1 (e_ (el ((e_ (ek nd es) v) &&& (left &&& ~~~(1#64 <<< (v).toNat)))) (j:Int))) - 1))::e8 b4 (cells (List.set bks1 (e_ dgs1 (e_ (el ((e_ (ek nd es) v) &&& (left &&& ~~~(1#64 <<< (v).toNat)))) (j:Int))).toNat ((e_ bks1 (e_ dgs1 (e_ (el ((e_ (ek nd es) v) &&& (left &&& ~~~(1#64 <<< (v).toNat)))) (j:Int)))) &&& ~~~(bitB (e_ (el ((e_ (ek nd es) v) &&& (left &&& ~~~(1#64 <<< (v).toNat)))) (j:Int)))):List (BitVec 64))) 264::vc 175 (.slice ad2 (ek nd es).length cp3) (ek nd es)::e8 b1 [e7 nd,va] 48::I) 10 (Dr 0 C (Ad C) (Dr 1 C (Ad C) (Dr 2 C (A3 (α:=Int) (xs:=List.set dgs1 (e_ (el ((e_ (ek nd es) v) &&& (left &&& ~~~(1#64 <<< (v).toNat)))) (j:Int)).toNat ((e_ dgs1 (e_ (el ((e_ (ek nd es) v) &&& (left &&& ~~~(1#64 <<< (v).toNat)))) (j:Int))) - 1)) Ac ef C C Bg om oo) (Dr 3 C (Bz (xs:=List.set dgs1 (e_ (el ((e_ (ek nd es) v) &&& (left &&& ~~~(1#64 <<< (v).toNat)))) (j:Int)).toNat ((e_ dgs1 (e_ (el ((e_ (ek nd es) v) &&& (left &&& ~~~(1#64 <<< (v).toNat)))) (j:Int))) - 1)) ef C Bg om oo) (Dr 4 C (Cl Cv ty175 C C om oo) (Dr 5 C (E5 (xs:=List.set bks1 (e_ dgs1 (e_ (el ((e_ (ek nd es) v) &&& (left &&& ~~~(1#64 <<< (v).toNat)))) (j:Int))).toNat ((e_ bks1 (e_ dgs1 (e_ (el ((e_ (ek nd es) v) &&& (left &&& ~~~(1#64 <<< (v).toNat)))) (j:Int)))) &&& ~~~(bitB (e_ (el ((e_ (ek nd es) v) &&& (left &&& ~~~(1#64 <<< (v).toNat)))) (j:Int))))) ty175 C (Dv mm) om oo) (Dr 6 C (Ad C) (Ds1 7 (Se C (Ao call237 C C (Bit_ok (e_ (el ((e_ (ek nd es) v) &&& (left &&& ~~~(1#64 <<< (v).toNat)))) (j:Int)))) ?_))))))))))))
      rintro _ _ ⟨_,_,⟨rfl,rfl⟩,rfl,rfl⟩
      refine ⟨A0,?_⟩
      refine Dr 8 C (Ez (a:=e_ (List.set bks1 (e_ dgs1 (e_ (el ((e_ (ek nd es) v) &&& (left &&& ~~~(1#64 <<< (v).toNat)))) (j:Int))).toNat ((e_ bks1 (e_ dgs1 (e_ (el ((e_ (ek nd es) v) &&& (left &&& ~~~(1#64 <<< (v).toNat)))) (j:Int)))) &&& ~~~(bitB (e_ (el ((e_ (ek nd es) v) &&& (left &&& ~~~(1#64 <<< (v).toNat)))) (j:Int))))) (e_ (List.set dgs1 (e_ (el ((e_ (ek nd es) v) &&& (left &&& ~~~(1#64 <<< (v).toNat)))) (j:Int)).toNat ((e_ dgs1 (e_ (el ((e_ (ek nd es) v) &&& (left &&& ~~~(1#64 <<< (v).toNat)))) (j:Int))) - 1)) (e_ (el ((e_ (ek nd es) v) &&& (left &&& ~~~(1#64 <<< (v).toNat)))) (j:Int)))) (b:=bitB (e_ (el ((e_ (ek nd es) v) &&& (left &&& ~~~(1#64 <<< (v).toNat)))) (j:Int))) C C) (Dr 9 C (Cl Cv ty175 C C om oo) (Dg kr ?_))
      refine Ae 10 C (Eff.setAU (xs:=List.set bks1 (e_ dgs1 (e_ (el ((e_ (ek nd es) v) &&& (left &&& ~~~(1#64 <<< (v).toNat)))) (j:Int))).toNat ((e_ bks1 (e_ dgs1 (e_ (el ((e_ (ek nd es) v) &&& (left &&& ~~~(1#64 <<< (v).toNat)))) (j:Int)))) &&& ~~~(bitB (e_ (el ((e_ (ek nd es) v) &&& (left &&& ~~~(1#64 <<< (v).toNat)))) (j:Int))))) (i:=e_ (List.set dgs1 (e_ (el ((e_ (ek nd es) v) &&& (left &&& ~~~(1#64 <<< (v).toNat)))) (j:Int)).toNat ((e_ dgs1 (e_ (el ((e_ (ek nd es) v) &&& (left &&& ~~~(1#64 <<< (v).toNat)))) (j:Int))) - 1)) (e_ (el ((e_ (ek nd es) v) &&& (left &&& ~~~(1#64 <<< (v).toNat)))) (j:Int))) (n:=(e_ (List.set bks1 (e_ dgs1 (e_ (el ((e_ (ek nd es) v) &&& (left &&& ~~~(1#64 <<< (v).toNat)))) (j:Int))).toNat ((e_ bks1 (e_ dgs1 (e_ (el ((e_ (ek nd es) v) &&& (left &&& ~~~(1#64 <<< (v).toNat)))) (j:Int)))) &&& ~~~(bitB (e_ (el ((e_ (ek nd es) v) &&& (left &&& ~~~(1#64 <<< (v).toNat)))) (j:Int))))) (e_ (List.set dgs1 (e_ (el ((e_ (ek nd es) v) &&& (left &&& ~~~(1#64 <<< (v).toNat)))) (j:Int)).toNat ((e_ dgs1 (e_ (el ((e_ (ek nd es) v) &&& (left &&& ~~~(1#64 <<< (v).toNat)))) (j:Int))) - 1)) (e_ (el ((e_ (ek nd es) v) &&& (left &&& ~~~(1#64 <<< (v).toNat)))) (j:Int)))) ||| (bitB (e_ (el ((e_ (ek nd es) v) &&& (left &&& ~~~(1#64 <<< (v).toNat)))) (j:Int)))) ty175 C C C om oo am) ?_
      rintro _ _ ⟨rfl,rfl⟩
      refine Dh kr ?_
      exact Ak (Aj (Aq (S10 2 3 4 5 6 9 10 90 91 92 C C C C C C C C C C) (Ax (Gr (Rad C C) (Gm C (Bd (B2 ((j+1),(List.set dgs1 (e_ (el ((e_ (ek nd es) v) &&& (left &&& ~~~(1#64 <<< (v).toNat)))) (j:Int)).toNat ((e_ dgs1 (e_ (el ((e_ (ek nd es) v) &&& (left &&& ~~~(1#64 <<< (v).toNat)))) (j:Int))) - 1)),(List.set (List.set bks1 (e_ dgs1 (e_ (el ((e_ (ek nd es) v) &&& (left &&& ~~~(1#64 <<< (v).toNat)))) (j:Int))).toNat ((e_ bks1 (e_ dgs1 (e_ (el ((e_ (ek nd es) v) &&& (left &&& ~~~(1#64 <<< (v).toNat)))) (j:Int)))) &&& ~~~(bitB (e_ (el ((e_ (ek nd es) v) &&& (left &&& ~~~(1#64 <<< (v).toNat)))) (j:Int))))) (e_ (List.set dgs1 (e_ (el ((e_ (ek nd es) v) &&& (left &&& ~~~(1#64 <<< (v).toNat)))) (j:Int)).toNat ((e_ dgs1 (e_ (el ((e_ (ek nd es) v) &&& (left &&& ~~~(1#64 <<< (v).toNat)))) (j:Int))) - 1)) (e_ (el ((e_ (ek nd es) v) &&& (left &&& ~~~(1#64 <<< (v).toNat)))) (j:Int))).toNat ((e_ (List.set bks1 (e_ dgs1 (e_ (el ((e_ (ek nd es) v) &&& (left &&& ~~~(1#64 <<< (v).toNat)))) (j:Int))).toNat ((e_ bks1 (e_ dgs1 (e_ (el ((e_ (ek nd es) v) &&& (left &&& ~~~(1#64 <<< (v).toNat)))) (j:Int)))) &&& ~~~(bitB (e_ (el ((e_ (ek nd es) v) &&& (left &&& ~~~(1#64 <<< (v).toNat)))) (j:Int))))) (e_ (List.set dgs1 (e_ (el ((e_ (ek nd es) v) &&& (left &&& ~~~(1#64 <<< (v).toNat)))) (j:Int)).toNat ((e_ dgs1 (e_ (el ((e_ (ek nd es) v) &&& (left &&& ~~~(1#64 <<< (v).toNat)))) (j:Int))) - 1)) (e_ (el ((e_ (ek nd es) v) &&& (left &&& ~~~(1#64 <<< (v).toNat)))) (j:Int)))) ||| (bitB (e_ (el ((e_ (ek nd es) v) &&& (left &&& ~~~(1#64 <<< (v).toNat)))) (j:Int)))))) (by dsimp only;exact ⟨om,(by have hN:=hB1.lower om (w:=(e_ (el (e_ (ek nd es) v &&& (left &&& ~~~(1#64 <<< (v).toNat)))) (j:Int))) (e:=e_ dgs1 (e_ (el (e_ (ek nd es) v &&& (left &&& ~~~(1#64 <<< (v).toNat)))) (j:Int))) hwm.1 hdeg0.symm om om (dg':=degM (ek nd es) left (el (e_ (ek nd es) v &&& (left &&& ~~~(1#64 <<< (v).toNat)))) (j+1)) (λu _=>degM_succ om (listB_nodup _) u);rw [hset2,bit_sh om om];exact hN)⟩))))))))
     ·exact Bs (Ap (Ap (A7 (Aj (Bs (E4 C (Ap (Ap (E4 C (A7 (B2 ((done++[(v,max kk dd)]),((left &&& ~~~(1#64 <<< (v).toNat))),(max kk dd),(dgs1),(bks1),(ad10),(cp11)) (by dsimp only;exact ⟨(core_step hc hTk om),(hB1.congr (λu=>Iff.rfl) (λu hu=>by have hr:=hB1.rng u hu;exact (degM_all hS om om hvm hr.1 hr.2 hu om).symm)),(by have:=listB_minus hvm;simp only [List.length_append,List.length_cons,List.length_nil];omega),om⟩) (hlt:=by (try dsimp only);exact (by have:=listB_minus hvm;omega)) (hL:=(Aa (Cr C (by first|rfl|(rw [ordL_snoc])|simp)) (Aa C (Aa C (Aa C (Aa C (Aa (Cr C (by first|rfl|(rw [ordL_snoc])|simp)) (Aa C Bj)))))))) (hI:=by (try dsimp only);exact (by rw [ordL_snoc,numL_snoc];exact B4)))))))))))))
   ·exact (hB2.some (Classical.not_not.1 (λh=>h asm)) hdg64 (λc h1 h2=>hz c h1 om)).elim
  ·refine Bs (Ap (Ap (A7 (Aj (Ah (Gm C (Gm C (Ga C (Ga C (Af (Aw (V.jump_ret ?_))))))))))))
   have hl0:left=0#64:=Classical.not_not.1 c50
   have hdn:done=coreR0 nd es:=by rw [←hc,hl0,coreR_zero,List.append_nil]
   subst hdn
   have hcl:=coreL_len nd es
   exact Co C C C (vc 3 (.slice ao (coreO nd es).length co) (coreO nd es)::vc 3 (.slice ad7 (coreL nd es).length cp8) (coreL nd es)::I) (by rw [hcl];simp only [List.length_replicate];exact B4) ⟨ao,co,ad7,cp8,by rw [hcl];simp only [List.length_replicate];rfl,rfl⟩
variable {κ:Ctx}{I:List Item}
theorem CNumbers_ok{nd:Int}{va:Value}{es:List Pt}(hl:Sl κ I va es)(hT:TabRd κ I 0 tzCells):ep prog κ 104 [.agg #[e7 nd,va]] I (λr J=>∃a c,r = .tuple #[.slice a (coreN nd es).length c,e7 (checkG nd es)]/\J=vc 3 (.slice a (coreN nd es).length c) (coreN nd es)::I):=by
 refine Ce1 Tryz.func104 C C ?_
 refine Ah (Ge1 (Bc (cs:=[_,_]) C C C) λb1=>Ga C (Ga C (Af (Au (Ah (Gl2 ty48 ?_))))))
 refine Gc0 (Ao call83 C C (CheckGen_ok (Bh hl))) ?_
 refine Ga C (Af (Ah (Gm C (Gr (Be C C) (Af (A6 C (λc10=>?_) (λc10=>?_)))))))
 ·refine Ah (Gm C (Ga C (Ga C (Af (Aw (Ai ?_))))))
  have hX:(coreN nd es)=[]:=if_pos c10
  exact Co C C C (vc 3 (.slice none (coreN nd es).length 0) (coreN nd es)::I) (by rw [hX];exact Cc (show Fit κ _ I from A0) (Bt (α:=Int) _ _)) ⟨none,0,by rw [hX];rfl,rfl⟩
 ·refine Ay (Aj (Ah (Gl2 ty48 ?_)))
  refine G.e (Ao call175 C C (CPeel_ok (nd:=nd) (Bh hl) (checkG_ok.1 (Classical.not_not.1 c10)) (Cg hT A0))) ?_
  rintro _ _ ⟨_,_,⟨ad2,cp3,ad4,cp5,rfl,rfl⟩,rfl,rfl⟩
  refine Gm C (Gr (A2 C C) (Gr (A2 C C) (Ga C (Ga C (Af (Aq (S1 6 C) (Ah (Gm C (Ga C (Ga C (Af (Aw ?_))))))))))))
  have hX:(coreN nd es)=_:=if_neg c10
  have hz:checkG nd es=0:=Classical.not_not.1 c10
  exact Co C C C (vc 3 (.slice ad4 (coreN nd es).length cp5) (coreN nd es)::I) (by rw [hX];exact A5) ⟨ad4,cp5,by rw [hX,hz]<;>rfl,rfl⟩
theorem coreN_len(nd:Int)(es:List Pt):(coreN nd es).length<=64:=by
 unfold coreN
 split
 ·simp
 ·rw [coreL_len,rowsB_len];omega
theorem CCore_ok{nd lv:Int}{va:Value}{es:List Pt}(hl:Sl κ I va es)(hT:TabRd κ I 0 tzCells):ep prog κ 109 [.agg #[e7 nd,va],e7 lv] I (λr J=>∃a c,r = .tuple #[.slice a (coreK nd es lv).length c,e7 (checkG nd es)]/\J=vc 3 (.slice a (coreK nd es lv).length c) (coreK nd es lv)::I):=by
 have hnl0:=coreN_len nd es
 refine Ce2 Tryz.func109 C C ?_
 refine Ah (Ge1 (Bc (cs:=[_,_]) C C C) λb1=>Ga C (Ga C (Af (Ah (Gl2 ty48 ?_)))))
 refine Gc2 (Ao call104 C C (CNumbers_ok (nd:=nd) (Bh hl) (Cg hT A0))) λad2 cp3=>?_
 refine Gm C (Gr (A2 C C) (Gr (A2 C C) (Ga C (Ga C (Af (Ah (Ga C (Af (Au (Ah (Gm C (Gr (Bm Ac C) (Gm C (Af (Aq (S6 18 17 16 8 7 1 C C C C C C) (A4 (Bu (σ:=Nat×(Option Addr)×Nat×(List Int)) (λs=>([(1,e7 lv),(7,e7 (checkG nd es)),(8,.slice s.2.1 s.2.2.2.length s.2.2.1),(16,.slice ad2 (coreN nd es).length cp3),(17,e7 ((((coreN nd es).length:Nat):Int))),(18,e7 ((s.1:Nat):Int))]:Env)) (λs=>vc 3 (.slice s.2.1 s.2.2.2.length s.2.2.1) (s.2.2.2)::vc 3 (.slice ad2 (coreN nd es).length cp3) (coreN nd es)::e8 b1 [e7 nd,va] 48::I) (λs=>(s.1<=(coreN nd es).length)/\(s.2.2.2=sideL s.1 (λv=>decide (lv<=e_ (coreN nd es) v)))) (λs=>(coreN nd es).length - s.1) (0,none,0,[]) (show ((0:Nat)<=(coreN nd es).length)/\(([]:List Int)=sideL (0:Nat) (λv=>decide (lv<=e_ (coreN nd es) v))) from ⟨om,rfl⟩) (Aa C (Aa C (Aa (Cr C (by first|rfl|simp)) (Aa C (Aa C (Aa B9 Bj)))))) (show Fit κ _ (vc 3 (.slice none ([]).length 0) (([]))::vc 3 (.slice ad2 (coreN nd es).length cp3) (coreN nd es)::e8 b1 [e7 nd,va] 48::I) from (Bt _ _)) ?_)))))))))))))))))
 rintro ⟨k,a,c,out⟩ hp
 dsimp only at hp ⊢
 obtain ⟨hk,ho⟩:=hp
 have hol:out.length<=k:=by rw [ho];exact sideL_len _ _
 have hnl:=coreN_len nd es
 refine Ah (Gr (A9 C C) (Af (Au (A6 C (λc19=>?_) (λc19=>?_)))))
 ·refine Ay (Aj (Au (A4 (Ah (Gm C (Gr (A3 (α:=Int) (xs:=coreN nd es) Ac ef C C Bg om om) (Gr (Bz (xs:=coreN nd es) ef C Bg om om) (Ga C (Ga C (Af (Ah (Gm C (Gm C (Gr (B8 C C) (Af (Aq (S8 25 9 1 7 8 16 17 18 C C C C C C C C) (A6 C (λc25=>?_) (λc25=>?_))))))))))))))))))
  ·refine Ax (Gm C (Gm C (Ge1 (B0 (α:=Int) (cs:=[_]) (xs:=[(k:Int)]) Ac ef C C dc dc C C C C) λad4=>?_)))
   refine Ge2 (B1 (α:=Int) (e:=3) (xs:=out) (ys:=([(k:Int)]:List Int)) Ac ef C C C mm Bg lcn dc C (λ_ _=>am)) λad5 cp6=>?_
   exact Ga C (Bd (Ak (Aj (Ax (Gr (Rad C C) (Gm C (Bd (B2 ((k+1),(ad5),(cp6),(out++([(k:Int)]:List Int))) (by dsimp only;exact ⟨om,(by first|(rw [sideL_yes (decide_eq_true asm),←ho])|(rw [sideL_no (decide_eq_false asm),←ho]))⟩)))))))))
  ·exact Ay (Ak (Aj (Ax (Gr (Rad C C) (Gm C (Bd (B2 ((k+1),(a),(c),(out)) (by dsimp only;exact ⟨om,(by first|(rw [sideL_yes (decide_eq_true asm),←ho])|(rw [sideL_no (decide_eq_false asm),←ho]))⟩))))))))
 ·refine Bs (Ap (Ap (A7 (Aj (Ah (Gm C (Gm C (Ga C (Ga C (Af (Aw ?_)))))))))))
  have hE:out=(coreK nd es lv):=by rw [ho,show k=(coreN nd es).length by omega];rfl
  exact Co C C C (vc 3 (.slice a (coreK nd es lv).length c) (coreK nd es lv)::I) (by rw [←hE];exact A5) ⟨a,c,by rw [←hE],rfl⟩
structure BothP (n:Net) (f:List Int) (side:List Bool):Prop where
 flow:IsFlow n f
 len:(side.length:Int)=n.nodes
 great:∃T,Great n f T/\∀z:Int,0<=z->z<n.nodes->e_ side z=T z
set_option maxHeartbeats 1000000 in
theorem Both_ok{κ:Ctx}{I:List Item}{n:Net}{v:Value}(hl:Sl κ I v n.arcs)(hok:n.Ok):ep prog κ 282 [.agg #[e7 (n.nodes),e7 (n.source),e7 (n.sink),v]] I (λr J=>∃a c f a' c' side val,r = .tuple #[.slice a f.length c,e7 val,.slice a' side.length c']/\BothP n f side/\J=vc 4 (.slice a' side.length c') side::vc 3 (.slice a f.length c) f::I):=by
 have hlim:=hok.lim
 have hsnk:=hok.snk
 have hsrc:=hok.src
 refine Ce1 Tryz.func282 C C ?_
 refine Ah (Ge1 (Bc (cs:=[_,_,_,_]) C C C) λb1=>Ga C (Ga C (Ga C (Af (Ah (Gl4 ty303 ?_))))))
 refine G.e (Ao call317 C C (Solved_ok (n:=n) (Bh hl) hok)) ?_
 rintro _ _ ⟨_,_,⟨b,hw,ow,lw,nw,f,hs,rs,L,nx,val,rfl,⟨hfull,hh,hr⟩,rfl⟩,rfl,rfl⟩
 refine G.fit (J:=e8 b [hw,ow,lw,nw,e7 (n.sink)] 339::vc 336 hw (hs)::vc 3 lw (L)::vc 3 nw (nx)::vc 22 ow (rs)::e8 b1 [e7 (n.nodes),e7 (n.source),e7 (n.sink),v] 303::(rowsI rs++I)) B4 ?_
 refine Gm C (Gr (A2 C C) (Gr (A2 C C) (Ga C (Ga C (Af (Au (Ah (Gf fld303_3 C ?_))))))))
 have hff:=hfull.flow.len
 have hhl:=hh.len
 refine Gl ty301 ?_
 refine Gr (Bx (α:=Arc) (xs:=n.arcs) Dl C (Bh hl)) (Gm C (Af (Aq (S7 17 16 15 3 5 2 1 C C C C C C C) (A4 (Bu (σ:=Nat×(Option Addr)×Nat×(List Int)) (λs=>([(1,.pointer (some ⟨b1,0,none⟩)),(2,.slice s.2.1 s.2.2.2.length s.2.2.1),(3,e7 val),(5,.pointer (some ⟨b,0,none⟩)),(15,v),(16,e7 ((n.arcs.length:Nat):Int)),(17,e7 ((s.1:Nat):Int))]:Env)) (λs=>vc 3 (.slice s.2.1 s.2.2.2.length s.2.2.1) (s.2.2.2)::e8 b [hw,ow,lw,nw,e7 (n.sink)] 339::vc 336 hw (hs)::vc 3 lw (L)::vc 3 nw (nx)::vc 22 ow (rs)::e8 b1 [e7 (n.nodes),e7 (n.source),e7 (n.sink),v] 303::(rowsI rs++I)) (λs=>(s.1<=n.arcs.length)/\(s.2.2.2=f.take s.1)) (λs=>n.arcs.length - s.1) (0,none,0,[]) (show ((0:Nat)<=n.arcs.length)/\(([]:List Int)=f.take (0:Nat)) from ⟨om,rfl⟩) (Aa C (Aa (Cr C (by first|rfl|simp)) (Aa C (Aa C (Aa C (Aa C (Aa B9 Bj))))))) (show Fit κ _ (vc 3 (.slice none ([]).length 0) (([]))::e8 b [hw,ow,lw,nw,e7 (n.sink)] 339::vc 336 hw (hs)::vc 3 lw (L)::vc 3 nw (nx)::vc 22 ow (rs)::e8 b1 [e7 (n.nodes),e7 (n.source),e7 (n.sink),v] 303::(rowsI rs++I)) from (Bt _ _)) ?_)))))
 rintro ⟨k,a,c,fl⟩ hp
 dsimp only at hp ⊢
 obtain ⟨hk,hfl⟩:=hp
 have hfll:fl.length=k:=by rw [hfl,List.length_take];omega
 refine Ah (Gr (A9 C C) (Af (Au (A6 C (λc18=>?_) (λc18=>?_)))))
 ·refine Ay (Aj (Au (A4 (Ah (Gm C (Gr (A3 (α:=Arc) (xs:=n.arcs) Dl ty305 C C (Bh hl) om oo) (Gr (Bp (α:=Arc) (xs:=n.arcs) ty305 C (Bh hl) om oo) (Ge1 (A8 ty305 C) λb2=>Ga C (Ge0 (Es3_3 ty305) ?_)))))))))
  have hgt:=hh.get (2*(k:Int)) ⟨by omega,by omega⟩
  have hcap:=hfull.flow.cap k om
  have hac:=arc_at hok (k:=k) om
  have hlv:leftH n f (2*(k:Int))=(e_ n.arcs k).cap - e_ f k:=by unfold leftH;rw [if_pos om,show (2*(k:Int)) / 2=(k:Int) from by omega]
  have hleft:(e_ n.arcs k).cap - (e_ hs (2*(k:Int))).left=e_ f k:=by omega
  refine Af (Bl mixed (Br (e8 b2 [e7 ((e_ n.arcs k).frm),e7 ((e_ n.arcs k).dst),e7 ((e_ n.arcs k).cap)] 305::e8 b [hw,ow,lw,nw,e7 (n.sink)] 339::vc 336 hw (hs)::vc 3 lw (L)::vc 3 nw (nx)::vc 22 ow (rs)::e8 b1 [e7 (n.nodes),e7 (n.source),e7 (n.sink),v] 303::(rowsI rs++I)) 16 (Dr 0 C (Ad C) (Dr 1 C (Ab fld305_2 C) (Dr 2 C (As ef) ?_)))))
  refine Dr 3 C (Ad C) (Dr 4 C (Bk C) (Dr 5 C (Ab fld339_0 C) (Dr 6 C (As ty337) ?_)))
  refine Dr 7 C (Ad C) (Dr 8 C (E0 C C (by unfold InR;omega)) (Dr 9 C (A3 (α:=Half) (xs:=hs) Ci ty336 C C Bg om oo) (Dr 10 C (Dc (α:=Half) (xs:=hs) fld336_1 C Bg oo) (Dr 11 C (De (α:=Half) (xs:=hs) (u:=e7 ((e_ hs (2*(k:Int))).left)) ef C Bg om oo C) (Dr 12 C (Rsu C C) (Ds1 13 (Se1 C (B0 (α:=Int) (cs:=[_]) (xs:=[((e_ n.arcs k).cap) - ((e_ hs (2*(k:Int))).left)]) Ac ef C C dc dc C C C C) λad3=>?_)))))))
  refine Ds1 14 (Se2 C (B1 (α:=Int) (e:=3) (xs:=fl) (ys:=([((e_ n.arcs k).cap) - ((e_ hs (2*(k:Int))).left)]:List Int)) Ac ef C C C mm Bg lcn dc C (λ_ _=>am)) λad4 cp5=>?_)
  exact Dr 15 C (Bb C) (Dz (Ak (Aj (Aq (S7 2 1 3 5 15 16 17 C C C C C C C) (Ax (Gr (Rad C C) (Gm C (Bd (B2 ((k+1),(ad4),(cp5),(fl++([((e_ n.arcs k).cap) - ((e_ hs (2*(k:Int))).left)]:List Int))) (by dsimp only;exact ⟨om,(by rw [hfl,Cu f k om];congr 1;rw [hleft])⟩))))))))))
 ·refine Bs (Ap (Ap (A7 (Aj (Ah (Gm C ?_))))))
  have hkm:k=n.arcs.length:=by omega
  have hfe:fl=f:=by rw [hfl,hkm,←hff,List.take_length]
  refine Gf fld303_2 C (Gl ef ?_)
  refine G.e (Ao call318 C C (Cm (J:=e8 b [hw,ow,lw,nw,e7 (n.sink)] 339::vc 3 (.slice a fl.length c) (fl)::vc 336 hw (hs)::vc 3 lw (L)::vc 3 nw (nx)::vc 22 ow (rs)::e8 b1 [e7 (n.nodes),e7 (n.source),e7 (n.sink),v] 303::(rowsI rs++I)) B4 (Reached_ok (n:=n) (rs:=rs) (hs:=hs) hok hh Bg hr Bg (λi h0 h=>B5 (rowsI_sl i h0 h) A0) om))) ?_
  rintro _ _ ⟨_,_,⟨ad6,cp7,seen8,rfl,hseen8,rfl⟩,rfl,rfl⟩
  show G prog κ _ _ _ _ ([(41,.slice ad6 seen8.length cp7),(40,e7 (n.sink)),(39,.pointer (some ⟨b1,2,none⟩)),(38,.pointer (some ⟨b,0,none⟩)),(18,.bool (decide ((k:Int)<((n.arcs.length:Nat):Int)))),(1,.pointer (some ⟨b1,0,none⟩)),(2,.slice a fl.length c),(3,e7 val),(5,.pointer (some ⟨b,0,none⟩)),(15,v),(16,e7 ((n.arcs.length:Nat):Int)),(17,e7 ((k:Int)))]:Env) (vc 4 (.slice ad6 seen8.length cp7) (seen8)::e8 b [hw,ow,lw,nw,e7 (n.sink)] 339::vc 3 (.slice a fl.length c) (fl)::vc 336 hw (hs)::vc 3 lw (L)::vc 3 nw (nx)::vc 22 ow (rs)::e8 b1 [e7 (n.nodes),e7 (n.source),e7 (n.sink),v] 303::(rowsI rs++I))
  have hlenseen8:=hseen8.len
  refine Ga C (Af (Au (Ah (Gm C (Gr (Bm Bw C) (Gm C (Af (Aq (S5 44 43 4 2 3 C C C C C) (A4 (Bu (σ:=Nat×(List Bool)) (λs=>([(2,.slice a fl.length c),(3,e7 val),(4,.slice ad6 seen8.length cp7),(43,e7 ((seen8.length:Nat):Int)),(44,e7 ((s.1:Nat):Int))]:Env)) (λs=>vc 4 (.slice ad6 seen8.length cp7) (s.2)::e8 b [hw,ow,lw,nw,e7 (n.sink)] 339::vc 3 (.slice a fl.length c) (fl)::vc 336 hw (hs)::vc 3 lw (L)::vc 3 nw (nx)::vc 22 ow (rs)::e8 b1 [e7 (n.nodes),e7 (n.source),e7 (n.sink),v] 303::(rowsI rs++I)) (λs=>(s.1<=seen8.length)/\(s.2.length=seen8.length)/\(∀i:Nat,i<seen8.length->e_ s.2 i=if i<s.1 then !e_ seen8 i else e_ seen8 i)) (λs=>seen8.length - s.1) (0,seen8) (show ((0:Nat)<=seen8.length)/\((seen8:List Bool).length=seen8.length)/\(∀i:Nat,i<seen8.length->e_ (seen8:List Bool) i=if i<(0:Nat) then !e_ seen8 i else e_ seen8 i) from ⟨om,rfl,(λi h=>by rw [if_neg om])⟩) (Aa C (Aa C (Aa C (Aa C (Aa B9 Bj))))) (show Fit κ _ (vc 4 (.slice ad6 seen8.length cp7) ((seen8))::e8 b [hw,ow,lw,nw,e7 (n.sink)] 339::vc 3 (.slice a fl.length c) (fl)::vc 336 hw (hs)::vc 3 lw (L)::vc 3 nw (nx)::vc 22 ow (rs)::e8 b1 [e7 (n.nodes),e7 (n.source),e7 (n.sink),v] 303::(rowsI rs++I)) from A5) ?_))))))))))
  rintro ⟨k,sd⟩ hp
  dsimp only at hp ⊢
  obtain ⟨hk,hsl,hsd⟩:=hp
  refine Ah (Gr (A9 C C) (Af (Au (A6 C (λc45=>?_) (λc45=>?_)))))
  ·refine Ay (Aj (Au (A4 (Ah (Gm C (Ga C (Af (Ax (Gm C (Gm C (Gm C (Gm C (Gr (A3 (α:=Bool) (xs:=sd) Bw ty4 C C Bg om oo) (Gr (Ef (xs:=sd) ty4 C Bg om oo) (Gr (Cb C) (Gr (A3 (α:=Bool) (xs:=sd) Bw ty4 C C Bg om oo) (Ge0 (Cs (α:=Bool) (xs:=sd) (e:=4) (new:= !e_ sd k) ty4 C C C om oo am) ?_)))))))))))))))))
   exact Bd (Ak (Aj (Aq (S5 2 3 4 43 44 C C C C C) (Ax (Gr (Rad C C) (Gm C (Bd (B2 ((k+1),(List.set sd ((k:Int)).toNat (!e_ sd k))) (by dsimp only;exact ⟨om,(by rw [List.length_set];exact hsl),(λi h=>by rw [Da _ _ _ _ om om om];by_cases e:i=k;(· subst e;rw [if_pos rfl,if_pos om,hsd i h,if_neg om]);(· rw [if_neg om,hsd i h];by_cases h2:i<k;(· rw [if_pos h2,if_pos om]);(· rw [if_neg h2,if_neg om])))⟩)))))))))
  ·refine Bs (Ap (Ap (A7 (Aj (Ah (Gm C (Gm C (Gm C (Ga C (Ga C (Ga C (Af (Aw ?_)))))))))))))
   subst hfe
   exact V.ret3 C C C C (vc 4 (.slice ad6 sd.length cp7) sd::vc 3 (.slice a fl.length c) fl::I) (by rw [hsl];exact B4) ⟨a,c,fl,ad6,cp7,sd,val,by rw [hsl],⟨hfull.flow,by omega,_,hseen8.great hok hfull,λz h0 h1=>by obtain ⟨i,rfl⟩:∃i:Nat,z=(i:Int):=⟨z.toNat,om⟩;rw [hsd i om,if_pos om]⟩,rfl⟩
end Go.Sl
