/- A part of the proofs of statements of this seat: contracts of functions, and the plain laws that they lean on. No conditions. -/
import Derived.Test.YtfkcohmipjhfcaaGreatDoorS20
set_option linter.unusedVariables false
set_option linter.unusedSimpArgs false
set_option linter.unusedSectionVars false
open List (replicate)
namespace Go.Sl
open Go.Proofs
set_option maxRecDepth 4000
instance:Enc Rg:=⟨λr=>[e7 r.tm,e7 r.al,.bool r.on],3,by omega,λ_=>rfl,λr u hu=>by
 simp only [List.mem_cons,List.not_mem_nil,or_false] at hu
 rcases hu with rfl|rfl|rfl<;>rfl⟩
noncomputable def alH(nd kd wd mo:Int)(es:List Ev)(als:List AlV)(t:Int)(i:Nat):Bool:=holdV nd (atG kd wd mo es t) (e_ als i)
noncomputable def ringsV(nd kd wd mo:Int)(es:List Ev)(als:List AlV):List Rg:=(ringS (alH nd kd wd mo es als) als.length (timesZ kd wd mo es)).2
theorem ringK_len(t:Int)(h:Nat->Bool):∀(k:Nat) (st:List Bool×List Rg),(ringK t h k st).1.length=st.1.length/\(ringK t h k st).2.length<=st.2.length+k
 |0,st=>⟨rfl,Nat.le_refl _⟩
 |k+1,st=>by
  obtain ⟨h1,h2⟩:=ringK_len t h k st
  rw [ringK_succ]
  unfold ring1
  split
  ·exact ⟨h1,by omega⟩
  ·exact ⟨by simp only [List.length_set];exact h1,by simp only [List.length_append,List.length_cons,List.length_nil];omega⟩
theorem timesZ_rng{nd kd wd mo:Int}{es:List Ev}(hH:HistOk nd kd wd mo es):∀t∈timesZ kd wd mo es,0<=t/\t<=1048576:=λt ht=>by
 have h:=mem_ascZ.1 ht
 unfold timesL at h
 rcases List.mem_cons.1 h with h|h
 ·omega
 ·rcases List.mem_append.1 h with h|h
  ·obtain ⟨e,he,rfl⟩:=List.mem_map.1 h
   exact (hH.fit e he).tm
  ·obtain ⟨e,he,rfl⟩:=List.mem_map.1 h
   have:=hH.allFit e (List.mem_append_right _ ((D3 _ _).mem_iff.2 he))
   exact this.tm
theorem timesL_len{nd kd wd mo:Int}{es:List Ev}(hH:HistOk nd kd wd mo es)(hlen:es.length<=19):(timesZ kd wd mo es).length<=58:=by
 have h1:=ascZ_len (timesL kd wd mo es)
 have h2:=hH.len2
 have h3:=hH.len
 have h4:=lateL_len kd wd (eh (slideS kd wd mo es).2)
 unfold timesZ
 unfold timesL at h1 ⊢
 rw [List.length_cons,List.length_append,List.length_map,List.length_map] at h1
 omega
theorem ringS_len(H:Int->Nat->Bool)(n:Nat)(ts:List Int):∀k,k<=ts.length->(ringS H n (ts.take k)).1.length=n/\(ringS H n (ts.take k)).2.length<=n*k
 |0,_=>⟨List.length_replicate,Nat.zero_le _⟩
 |k+1,hk=>by
  obtain ⟨h1,h2⟩:=ringS_len H n ts k om
  rw [ringS_take om]
  obtain ⟨h3,h4⟩:=ringK_len (e_ ts k) (H (e_ ts k)) n (ringS H n (ts.take k))
  exact ⟨by rw [h3,h1],by rw [Nat.mul_succ];omega⟩
theorem ring_yes{t:Int}{h:Nat->Bool}{k:Nat}{p:List Bool×List Rg}{on:List Bool}{out:List Rg}(he:(on,out)=ringK t h k p)(hc:h k≠e_ on k):(List.set on ((k:Int)).toNat (h k),out++[(⟨t,(k:Int),h k⟩:Rg)])=ringK t h (k+1) p:=by
 rw [ringK_succ,←he]
 unfold ring1
 rw [if_neg hc,Int.toNat_natCast]
theorem ring_no{t:Int}{h:Nat->Bool}{k:Nat}{p:List Bool×List Rg}{on:List Bool}{out:List Rg}(he:(on,out)=ringK t h k p)(hc:¬h k≠e_ on k):(on,out)=ringK t h (k+1) p:=by
 rw [ringK_succ,←he]
 unfold ring1
 rw [if_pos (Classical.not_not.1 hc)]
theorem streamE_zeroH{nd kd wd mo:Int}{es:List Ev}(h:HistOk nd kd wd mo es):streamE nd es=0:=by
 have:=slideE_zeroH h
 unfold slideE at this
 rwa [if_neg (by simp [h.win])] at this
set_option maxHeartbeats 2000000 in
theorem Watch_ok{κ:Ctx}{I:List Item}{nd kd wd mo:Int}{ea aa:Option Addr}{ec ac:Nat}{es:List Ev}{als:List AlV}(hl:Sl κ I (.slice ea es.length ec) es)(ha:Sl κ I (.slice aa als.length ac) als)(hsl:∀x∈als,Sl κ I (.slice x.a x.xs.length x.c) x.xs)(hH:HistOk nd kd wd mo es)(hlen:es.length<=19)(hok:∀x∈als,AlOk nd x)(hal:als.length<=16)(hT:TabRd κ I 0 tzCells):ep Tryz.prog κ 23 [e7 nd,.slice ea es.length ec,.agg #[e7 kd,e7 wd,e7 mo],.slice aa als.length ac] I (λr J=>∃a c,r = .tuple #[.slice a (ringsV nd kd wd mo es als).length c,e7 0]/\J=vc 44 (.slice a (ringsV nd kd wd mo es als).length c) (ringsV nd kd wd mo es als)::I):=by
 refine B3 hl.le λhmax=>?_
 refine Ce4 Tryz.func23 C C ?_
 refine Ah (Ge1 (Bc (cs:=[_,_,_]) C C C) λb1=>Ga C (Ga C (Af (Au (Ah (Gl3 ty31 ?_))))))
 refine G.e (Ao call78 C C (CheckW_ok kd wd mo)) ?_
 rintro _ _ ⟨_,_,⟨rfl,rfl⟩,rfl,rfl⟩
 refine Ga C (Af (Ah (Gm C (Gr (Be C C) (Af (A6 C (λc27=>?_) (λc27=>?_)))))))
 ·exact absurd hH.win c27
 ·refine Ay (Aj (Au (Ah (Gm C (Gm C (Gc0 (Ao call79 C C (HCheck_ok (nd:=nd) (Bh hl))) ?_))))))
  refine Ga C (Af (Aq (S5 11 6 0 1 3 C C C C C) (Ah (Gm C (Gr (Be C C) (Af (A6 C (λc33=>?_) (λc33=>?_))))))))
  ·exact absurd (streamE_zeroH hH) c33
  ·refine Ay (Aj (Au (Ah (Gm C (Gr (Bm Cn C) (Gr (Bv C C) (Af (A6 C (λc37=>?_) (λc37=>?_)))))))))
   ·omega
   ·refine Ay (Aj (Au (Ah (Gm C (Gr (Bm Cn C) (Gm C (Af (A4 (Bu (σ:=Nat) (λs=>([(0,e7 nd),(1,.slice ea es.length ec),(3,.slice aa als.length ac),(6,.pointer (some ⟨b1,0,none⟩)),(38,.slice aa als.length ac),(39,e7 ((als.length:Nat):Int)),(40,e7 ((s:Nat):Int))]:Env)) (λs=>e8 b1 [e7 kd,e7 wd,e7 mo] 31::I) (λs=>(s<=als.length)) (λs=>als.length - s) 0 (show ((0:Nat)<=als.length) from om) (Aa C (Aa C (Aa C (Aa C (Aa C (Aa C (Aa B9 Bj))))))) (show Fit κ _ (e8 b1 [e7 kd,e7 wd,e7 mo] 31::I) from A5) ?_)))))))))
    rintro k hp
    have hk:=hp
    refine Ah (Gr (A9 C C) (Af (Au (A6 C (λc41=>?_) (λc41=>?_)))))
    ·refine Ay (Aj (Au (A4 (Ah (Gr (A3 (α:=AlV) (xs:=als) Cn ty42 C C (Bh ha) om olr) (Gr (Bp (α:=AlV) (xs:=als) ty42 C (Bh ha) om olr) (Ge1 (A8 ty42 C) λb2=>Ge0 (C5 ty42) ?_)))))))
     refine Af (Ah (Gl6 ty42 ?_))
     refine Gm C (G.e (Ao call37 C C (CheckAny_ok (x:=(e_ als k)) (B5 (hsl _ (Ca om om)) A0) (hok _ (Ca om om)))) ?_)
     rintro _ _ ⟨_,_,⟨rfl,rfl⟩,rfl,rfl⟩
     refine Ga C (Af (Aq (S8 14 0 1 3 6 38 39 40 C C C C C C C C) (Ah (Gm C (Gr (Be C C) (Af (A6 C (λc48=>?_) (λc48=>?_))))))))
     ·exact absurd rfl c48
     ·exact Ay (Ak (Aj (Ax (Gr (Rad C C) (Gm C (Bd (B2 ((k+1)) om)))))))
    ·refine Bs (Ap (Ap (A7 (Aj (Ah (Ga C (Af (Ah (Gm C (Gr (Bm Cn C) (Ge2 (Cj (α:=Bool) (n:=als.length) Bw ty4 C C C om om dc C) λad3 cp4=>?_)))))))))))
     refine Ga C (Af (Au (Ah (Gm C (Gm C (Gl3 ty31 ?_))))))
     refine G.e (Ao call80 C C (Times_ok (nd:=nd) (kd:=kd) (wd:=wd) (mo:=mo) (Bh hl) hH hlen)) ?_
     rintro _ _ ⟨_,_,⟨ad5,cp6,rfl,rfl⟩,rfl,rfl⟩
     refine Gr (Bm Ac C) (Gm C (Af (Aq (S9 59 58 57 16 15 0 1 3 6 C C C C C C C C C) (A4 (Bu (σ:=Nat×(Option Addr)×Nat×(List Bool)×(List Rg)) (λs=>([(0,e7 nd),(1,.slice ea es.length ec),(3,.slice aa als.length ac),(6,.pointer (some ⟨b1,0,none⟩)),(15,.slice s.2.1 s.2.2.2.2.length s.2.2.1),(16,.slice ad3 (replicate als.length (default:Bool)).length cp4),(57,.slice ad5 (timesZ kd wd mo es).length cp6),(58,e7 ((((timesZ kd wd mo es).length:Nat):Int))),(59,e7 ((s.1:Nat):Int))]:Env)) (λs=>vc 44 (.slice s.2.1 s.2.2.2.2.length s.2.2.1) (s.2.2.2.2)::vc 3 (.slice ad5 (timesZ kd wd mo es).length cp6) (timesZ kd wd mo es)::vc 4 (.slice ad3 (replicate als.length (default:Bool)).length cp4) (s.2.2.2.1)::e8 b1 [e7 kd,e7 wd,e7 mo] 31::I) (λs=>(s.1<=(timesZ kd wd mo es).length)/\((s.2.2.2.1,s.2.2.2.2)=ringS (alH nd kd wd mo es als) als.length (List.take s.1 (timesZ kd wd mo es)))) (λs=>(timesZ kd wd mo es).length - s.1) (0,none,0,replicate als.length false,[]) (show ((0:Nat)<=(timesZ kd wd mo es).length)/\(((replicate als.length false:List Bool),([]:List Rg))=ringS (alH nd kd wd mo es als) als.length (List.take (0:Nat) (timesZ kd wd mo es))) from ⟨om,rfl⟩) (Aa C (Aa C (Aa C (Aa C (Aa (Cr C (by first|rfl|simp)) (Aa C (Aa C (Aa C (Aa B9 Bj))))))))) (show Fit κ _ (vc 44 (.slice none ([]).length 0) (([]))::vc 3 (.slice ad5 (timesZ kd wd mo es).length cp6) (timesZ kd wd mo es)::vc 4 (.slice ad3 (replicate als.length (default:Bool)).length cp4) ((replicate als.length false))::e8 b1 [e7 kd,e7 wd,e7 mo] 31::I) from (Cc (Bt (α:=Rg) _ _) B4)) ?_)))))
     rintro ⟨k,a,c,on,out⟩ hp
     dsimp only at hp ⊢
     obtain ⟨hk,hst⟩:=hp
     have hTl:=timesL_len hH hlen
     have hrl:=ringS_len (alH nd kd wd mo es als) als.length (timesZ kd wd mo es) k om
     rw [←hst] at hrl
     have honl:on.length=als.length:=hrl.1
     have houl:out.length<=als.length*k:=hrl.2
     have hml:als.length*k<=16*58:=Nat.mul_le_mul hal om
     refine Ah (Gr (A9 C C) (Af (Au (A6 C (λc60=>?_) (λc60=>?_)))))
     ·refine Ay (Aj (Au (A4 (Ah (Gr (A3 (α:=Int) (xs:=timesZ kd wd mo es) Ac ef C C Bg om olr) (Gr (Bz (xs:=timesZ kd wd mo es) ef C Bg om olr) (Ga C (Af (Ah (Gm C (Gm C (Gl3 ty31 ?_))))))))))))
      refine Gm C (G.e (Ao call44 C C (At_ok (nd:=nd) (kd:=kd) (wd:=wd) (mo:=mo) (tq:=e_ (timesZ kd wd mo es) k) (Bh hl) hH hlen (timesZ_rng hH _ (Ca om om)))) ?_)
      rintro _ _ ⟨_,_,⟨ad7,cp8,rfl,rfl⟩,rfl,rfl⟩
      refine Gm C (Gr (A2 C C) (Gr (A2 C C) (Ge1 (A8 ty48 C) λb9=>Ge0 (Cd ty48) ?_)))
      refine Ga C (Af (Aq (S12 20 19 18 0 1 3 6 15 16 57 58 59 C C C C C C C C C C C C) (Au (Ah (Gm C (Gr (Be C C) (Af (Aq (S13 72 20 19 18 0 1 3 6 15 16 57 58 59 C C C C C C C C C C C C C) (A6 C (λc72=>?_) (λc72=>?_))))))))))
      ·exact absurd rfl c72
      ·refine Ay (Aj (Ah (Gm C (Gr (Bm Cn C) (Gm C (Af (Aq (S14 76 75 74 19 18 0 1 3 6 15 16 57 58 59 C C C C C C C C C C C C C C) (A4 (Bu (σ:=Nat×(Option Addr)×Nat×(List Bool)×(List Rg)) (λs=>([(0,e7 nd),(1,.slice ea es.length ec),(3,.slice aa als.length ac),(6,.pointer (some ⟨b1,0,none⟩)),(15,.slice s.2.1 s.2.2.2.2.length s.2.2.1),(16,.slice ad3 (replicate als.length (default:Bool)).length cp4),(18,e7 (e_ (timesZ kd wd mo es) k)),(19,.pointer (some ⟨b9,0,none⟩)),(57,.slice ad5 (timesZ kd wd mo es).length cp6),(58,e7 ((((timesZ kd wd mo es).length:Nat):Int))),(59,e7 ((k:Int))),(74,.slice aa als.length ac),(75,e7 ((als.length:Nat):Int)),(76,e7 ((s.1:Nat):Int))]:Env)) (λs=>vc 44 (.slice s.2.1 s.2.2.2.2.length s.2.2.1) (s.2.2.2.2)::e8 b9 [e7 nd,.slice ad7 (atG kd wd mo es (e_ (timesZ kd wd mo es) k)).length cp8] 48::vc 135 (.slice ad7 (atG kd wd mo es (e_ (timesZ kd wd mo es) k)).length cp8) (atG kd wd mo es (e_ (timesZ kd wd mo es) k))::vc 3 (.slice ad5 (timesZ kd wd mo es).length cp6) (timesZ kd wd mo es)::vc 4 (.slice ad3 (replicate als.length (default:Bool)).length cp4) (s.2.2.2.1)::e8 b1 [e7 kd,e7 wd,e7 mo] 31::I) (λs=>(s.1<=als.length)/\((s.2.2.2.1,s.2.2.2.2)=ringK (e_ (timesZ kd wd mo es) k) ((alH nd kd wd mo es als) (e_ (timesZ kd wd mo es) k)) s.1 (on,out))) (λs=>als.length - s.1) (0,a,c,on,out) (show ((0:Nat)<=als.length)/\(((on:List Bool),(out:List Rg))=ringK (e_ (timesZ kd wd mo es) k) ((alH nd kd wd mo es als) (e_ (timesZ kd wd mo es) k)) (0:Nat) (on,out)) from ⟨om,rfl⟩) (Aa C (Aa C (Aa C (Aa C (Aa (Cr C (by first|rfl|simp)) (Aa C (Aa C (Aa C (Aa C (Aa C (Aa C (Aa C (Aa C (Aa B9 Bj)))))))))))))) (show Fit κ _ (vc 44 (.slice a (out).length c) ((out))::e8 b9 [e7 nd,.slice ad7 (atG kd wd mo es (e_ (timesZ kd wd mo es) k)).length cp8] 48::vc 135 (.slice ad7 (atG kd wd mo es (e_ (timesZ kd wd mo es) k)).length cp8) (atG kd wd mo es (e_ (timesZ kd wd mo es) k))::vc 3 (.slice ad5 (timesZ kd wd mo es).length cp6) (timesZ kd wd mo es)::vc 4 (.slice ad3 (replicate als.length (default:Bool)).length cp4) ((on))::e8 b1 [e7 kd,e7 wd,e7 mo] 31::I) from B4) ?_)))))))))
       rintro ⟨k2,a2,c2,on2,out2⟩ hp
       dsimp only at hp ⊢
       obtain ⟨hk2,hst2⟩:=hp
       have hrk:=ringK_len (e_ (timesZ kd wd mo es) k) ((alH nd kd wd mo es als) (e_ (timesZ kd wd mo es) k)) k2 (on,out)
       rw [←hst2] at hrk
       have hon2:on2.length=als.length:=hrk.1.trans honl
       have hou2:out2.length<=out.length+k2:=hrk.2
       refine Ah (Gr (A9 C C) (Af (Aq (S15 77 0 1 3 6 15 16 18 19 57 58 59 74 75 76 C C C C C C C C C C C C C C C) (Au (A6 C (λc77=>?_) (λc77=>?_))))))
       ·refine Ay (Aj (Aq (S14 0 1 3 6 15 16 18 19 57 58 59 74 75 76 C C C C C C C C C C C C C C) (Au (A4 (Ah (Gm C (Gr (A3 (α:=AlV) (xs:=als) Cn ty42 C C (Bh ha) om olr) (Gr (Bp (α:=AlV) (xs:=als) ty42 C (Bh ha) om olr) ?_))))))))
        have hak:=hok (e_ als k2) (Ca om om)
        refine Ge1 (A8 ty42 C) λb10=>Ga C (Ge0 (C5 ty42) ?_)
        refine Af (Aq (S16 21 22 0 1 3 6 15 16 18 19 57 58 59 74 75 76 C C C C C C C C C C C C C C C C) (Au (Bl mixed (Br (e8 b10 [e7 ((e_ als k2).kd),e7 ((e_ als k2).no),e7 ((e_ als k2).lv),.slice (e_ als k2).a (e_ als k2).xs.length (e_ als k2).c,e7 ((e_ als k2).num),e7 ((e_ als k2).den)] 42::vc 44 (.slice a2 out2.length c2) (out2)::e8 b9 [e7 nd,.slice ad7 (atG kd wd mo es (e_ (timesZ kd wd mo es) k)).length cp8] 48::vc 135 (.slice ad7 (atG kd wd mo es (e_ (timesZ kd wd mo es) k)).length cp8) (atG kd wd mo es (e_ (timesZ kd wd mo es) k))::vc 3 (.slice ad5 (timesZ kd wd mo es).length cp6) (timesZ kd wd mo es)::vc 4 (.slice ad3 (replicate als.length (default:Bool)).length cp4) (on2)::e8 b1 [e7 kd,e7 wd,e7 mo] 31::I) 8 (Dr 0 C (Ab fld42_0 C) (Dr 1 C (As ef) ?_))))))
        refine Dr 4 C (Bq (vs:=[_,_]) ty48) ?_
        refine Dr 5 C (Bq (vs:=[_,_,_,_,_,_]) ty42) ?_
        refine Ds1 2 (Se C (Ao call81 C C (OfAny_ok hak.kind)) ?_)
        rintro _ _ ⟨_,_,⟨rfl,rfl⟩,rfl,rfl⟩
        refine ⟨A5,?_⟩
        refine Dr 3 C (Runs.fieldV (λw=>fieldK _ _ _ _ _ w) C) ?_
        refine Ds1 6 (Se C (Ct (fK_call hak.kind) (first:=[]) (caps:=[]) C C C (HoldAny_ok (x:=(e_ als k2)) Bg (B5 (hsl _ (Ca om om)) A0) (hH.graph (e_ (timesZ kd wd mo es) k)) hak (Cg hT A0))) ?_)
        rintro _ _ ⟨_,_,⟨rfl,rfl⟩,rfl,rfl⟩
        refine ⟨A5,?_⟩
        refine Dr 7 C (Bb C) (Dz (Aj (Aq (S16 23 21 0 1 3 6 15 16 18 19 57 58 59 74 75 76 C C C C C C C C C C C C C C C C) (Ah (Gm C (Gm C (Gm C (Gr (A3 (α:=Bool) (xs:=on2) Bw ty4 C C Bg om olr) (Gr (Ef (xs:=on2) ty4 C Bg om olr) (Gr (Runs.neqb D7 C C) (Af (Aq (S17 93 23 21 0 1 3 6 15 16 18 19 57 58 59 74 75 76 C C C C C C C C C C C C C C C C C) (A6 C (λc93=>?_) (λc93=>?_))))))))))))))
        ·refine Ah (Gm C (Gm C (Gm C (Gr (A3 (α:=Bool) (xs:=on2) Bw ty4 C C Bg om olr) (Ge0 (Cs (α:=Bool) (xs:=on2) (e:=4) (new:=(holdV nd (atG kd wd mo es (e_ (timesZ kd wd mo es) k)) (e_ als k2))) ty4 C C C om olr am) ?_)))))
         refine Af (Aq (S16 23 21 0 1 3 6 15 16 18 19 57 58 59 74 75 76 C C C C C C C C C C C C C C C C) (Ax (Gm C (Gm C (Gm C (Gm C (Gr (Bf (cells:=[_,_,_]) ty44 Eu pl44 C C) (Ge1 (B0 (α:=Rg) (cs:=[_,_,_]) (xs:=[⟨e_ (timesZ kd wd mo es) k,(k2:Int),(holdV nd (atG kd wd mo es (e_ (timesZ kd wd mo es) k)) (e_ als k2))⟩]) Cy ty44 C C dc dc C C C C) λad11=>?_))))))))
         refine Ge2 (B1 (α:=Rg) (e:=44) (xs:=out2) (ys:=([⟨e_ (timesZ kd wd mo es) k,(k2:Int),(holdV nd (atG kd wd mo es (e_ (timesZ kd wd mo es) k)) (e_ als k2))⟩]:List Rg)) Cy ty44 C C C mm Bg lcn dc C (λ_ _=>am)) λad12 cp13=>?_
         exact Ga C (Bd (Ak (Aj (Aq (S14 15 0 1 3 6 16 18 19 57 58 59 74 75 76 C C C C C C C C C C C C C C) (Ax (Gr (Rad C C) (Gm C (Bd (B2 ((k2+1),(ad12),(cp13),(List.set on2 ((k2:Int)).toNat ((holdV nd (atG kd wd mo es (e_ (timesZ kd wd mo es) k)) (e_ als k2)))),(out2++([⟨e_ (timesZ kd wd mo es) k,(k2:Int),(holdV nd (atG kd wd mo es (e_ (timesZ kd wd mo es) k)) (e_ als k2))⟩]:List Rg))) (by dsimp only;exact ⟨om,(by first|exact ring_yes hst2 c93|exact ring_no hst2 c93)⟩))))))))))
        ·exact Ay (Ak (Aj (Aq (S14 0 1 3 6 15 16 18 19 57 58 59 74 75 76 C C C C C C C C C C C C C C) (Ax (Gr (Rad C C) (Gm C (Bd (B2 ((k2+1),(a2),(c2),(on2),(out2)) (by dsimp only;exact ⟨om,(by first|exact ring_yes hst2 c93|exact ring_no hst2 c93)⟩)))))))))
       ·exact Bs (Ap (Ap (A7 (Ak (Aj (Aq (S9 0 1 3 6 15 16 57 58 59 C C C C C C C C C) (Ax (Gr (Rad C C) (Gm C (Bd (B2 ((k+1),(a2),(c2),(on2),(out2)) (by dsimp only;exact ⟨om,(by rw [hst2,ringS_take om,←hst,show k2=als.length by omega])⟩))))))))))))
     ·refine Bs (Ap (Ap (A7 (Aj (Ah (Gm C (Ga C (Ga C (Af (Aw ?_))))))))))
      have hE:out=(ringsV nd kd wd mo es als):=by have h:=congrArg Prod.snd hst;rw [List.take_of_length_le om] at h;exact h
      exact Co C C C (vc 44 (.slice a (ringsV nd kd wd mo es als).length c) (ringsV nd kd wd mo es als)::I) (by rw [←hE];exact B4) ⟨a,c,by rw [←hE],rfl⟩
set_option maxHeartbeats 4000000 in
theorem Apply5_ok{κ:Ctx}{I:List Item}{nd:Int}{e:Ev}{va:Value}{xs:List Lk}(hl:Sl κ I va xs)(hval:checkS nd xs=0)(hfit:FitOk nd e)(hsz:xs.length<=1000000):ep Tryz.prog κ 94 [.agg #[e7 nd,va],.agg #[e7 (e.kd),e7 (e.tm),e7 (e.u),e7 (e.v),e7 (e.w),e7 (e.lb),e7 (e.sg)]] I (λr J=>∃y:Option Addr×Nat×Option Addr×Nat×Nat,(r = .tuple #[.agg #[e7 nd,.slice y.1 (em xs e).length y.2.1],.slice y.2.2.1 y.2.2.2.1 y.2.2.2.2,e7 0]/\y.2.2.2.1<=2*xs.length+1)/\J=vc 146 (.slice y.1 (em xs e).length y.2.1) (em xs e)::I):=by
 refine B3 hl.le λhmax=>?_
 refine Ce2 Tryz.func94 C C ?_
 refine Ah (Ge1 (Bc (cs:=[_,_]) C C C) λb1=>Ge1 (Bc (cs:=[_,_,_,_,_,_,_]) C C C) λb2=>Ge1 (A8 ty111 C) λb3=>Ga C (Ga C (Af (Au (Ah (Gl2 ty111 ?_))))))
 refine Gc0 (Ao call129 C C (CheckS5_ok (nd:=nd) (Bh hl))) ?_
 refine Ga C (Af (Ah (Gm C (Gr (Be C C) (Af (A6 C (λc19=>?_) (λc19=>?_)))))))
 ·exact absurd hval c19
 ·refine Ay (Aj (Au (Ah (Gl7 ty108 ?_))))
  refine Gc0 (Ao call155 C C (CheckE4_ok e)) ?_
  refine Ga C (Af (Aq (S4 8 4 3 2 C C C C) (Ah (Gm C (Gr (Be C C) (Af (A6 C (λc25=>?_) (λc25=>?_))))))))
  ·exact absurd hfit.chk c25
  ·refine Ay (Aj (Au (Ah (Gf fld108_2 C (Gl ef ?_)))))
   refine Gf fld111_0 C (Gl ef ?_)
   refine Gr (B8 C C) (Gm C (Ba (d:=33) C (λg33=>?_) (λg33=>?_)))
   ·exact absurd hfit.fits om
   ·refine e9 (Ab fld108_3 C) (e9 (As ef) ?_)
    refine e9 (Ab fld111_0 C) (e9 (As ef) ?_)
    refine e9 (B8 C C) (Gr (Al C C) (Af (Aq (S4 39 4 3 2 C C C C) (A6 C (λc39=>?_) (λc39=>?_)))))
    ·exact absurd hfit.fits om
    ·refine Ay (Aj (Ah (Gf fld111_0 C (Gl ef ?_))))
     refine Gr (Bf (cells:=[_,_]) ty111 Cw pl111 C C) (Ge1 (A8 ty111 C) λb4=>Ge0 (Cd ty111) ?_)
     refine Af (Ah (Ga C ?_))
     have hasc:=(checkS_ok hval).2.2
     have hfk:=hfit.kind
     refine Af (Ah (Gf fld108_2 C (Gl ef ?_)))
     refine Gf fld108_3 C (Gl ef ?_)
     refine Gr (E1 C C) (Gf fld108_2 C (Gl ef ?_))
     refine Gf fld108_3 C (Gl ef ?_)
     refine Gr (D2 C C) (Gf fld108_4 C (Gl ef ?_))
     refine Gf fld108_5 C (Gl ef ?_)
     refine Gf fld108_6 C (Gl ef ?_)
     refine Gf fld108_1 C (Gl ef ?_)
     refine Gr (Bf (cells:=[_,_,_,_,_,_]) ty146 Tryz.underlying146 pl146 C C) (Ge1 (A8 ty146 C) λb5=>Ge0 (C5 ty146) ?_)
     show G Tryz.prog κ _ _ _ _ ([(11,.pointer (some ⟨b5,0,none⟩)),(62,.agg #[e7 (if e.v<e.u then e.v else e.u),e7 (if e.u<e.v then e.v else e.u),e7 (e.w),e7 (e.lb),e7 (e.sg),e7 (e.tm)]),(61,e7 (e.tm)),(60,.pointer (some ⟨b2,1,none⟩)),(59,e7 (e.sg)),(58,.pointer (some ⟨b2,6,none⟩)),(57,e7 (e.lb)),(56,.pointer (some ⟨b2,5,none⟩)),(55,e7 (e.w)),(54,.pointer (some ⟨b2,4,none⟩)),(53,e7 (if e.u<e.v then e.v else e.u)),(52,e7 (e.v)),(51,.pointer (some ⟨b2,3,none⟩)),(50,e7 (e.u)),(49,.pointer (some ⟨b2,2,none⟩)),(48,e7 (if e.v<e.u then e.v else e.u)),(47,e7 (e.v)),(46,.pointer (some ⟨b2,3,none⟩)),(45,e7 (e.u)),(44,.pointer (some ⟨b2,2,none⟩)),(10,.slice none 0 0),(9,.pointer (some ⟨b4,0,none⟩)),(43,.agg #[e7 nd,.slice none 0 0]),(42,e7 nd),(41,.pointer (some ⟨b1,0,none⟩)),(39,.bool (decide (nd<=e.v))),(4,.pointer (some ⟨b3,0,none⟩)),(3,.pointer (some ⟨b2,0,none⟩)),(2,.pointer (some ⟨b1,0,none⟩))]:Env) (e8 b5 [e7 ((ei e).u),e7 ((ei e).v),e7 ((ei e).w),e7 ((ei e).lb),e7 ((ei e).sg),e7 ((ei e).tm)] 146::e8 b4 [e7 nd,.slice none 0 0] 111::e8 b3 [e7 0,.slice none 0 0] 111::e8 b2 [e7 (e.kd),e7 (e.tm),e7 (e.u),e7 (e.v),e7 (e.w),e7 (e.lb),e7 (e.sg)] 108::e8 b1 [e7 nd,va] 111::I)
     refine Af (Aq (S6 11 10 9 4 3 2 C C C C C C) (Ah (Gf fld108_0 C (Gl ef ?_))))
     refine Gr (Be C C) (Ga C (Af (Au (Ah (Gf fld111_1 C (Gl ty109 ?_))))))
     refine Gr (Bx (α:=Lk) (xs:=xs) Ar C (Bh hl)) (Gm C (Af (Aq (S9 69 68 67 12 11 10 9 4 3 C C C C C C C C C) (A4 (Bu (σ:=Nat×(Option Addr)×Nat×(Option Addr)×Nat×(List Lk)×(List Ev)×Bool) (λs=>([(3,.pointer (some ⟨b2,0,none⟩)),(4,.pointer (some ⟨b3,0,none⟩)),(9,.pointer (some ⟨b4,0,none⟩)),(10,.slice s.2.2.2.1 s.2.2.2.2.2.2.1.length s.2.2.2.2.1),(11,.pointer (some ⟨b5,0,none⟩)),(12,.bool (s.2.2.2.2.2.2.2)),(67,va),(68,e7 ((xs.length:Nat):Int)),(69,e7 ((s.1:Nat):Int))]:Env)) (λs=>e8 b4 [e7 nd,.slice s.2.1 s.2.2.2.2.2.1.length s.2.2.1] 111::vc 146 (.slice s.2.1 s.2.2.2.2.2.1.length s.2.2.1) (s.2.2.2.2.2.1)::vc 108 (.slice s.2.2.2.1 s.2.2.2.2.2.2.1.length s.2.2.2.2.1) (s.2.2.2.2.2.2.1)::e8 b5 [e7 ((ei e).u),e7 ((ei e).v),e7 ((ei e).w),e7 ((ei e).lb),e7 ((ei e).sg),e7 ((ei e).tm)] 146::e8 b3 [e7 0,.slice none 0 0] 111::e8 b2 [e7 (e.kd),e7 (e.tm),e7 (e.u),e7 (e.v),e7 (e.w),e7 (e.lb),e7 (e.sg)] 108::e8 b1 [e7 nd,va] 111::I) (λs=>(s.1<=xs.length)/\(ApI xs e s.1 s.2.2.2.2.2.1 s.2.2.2.2.2.2.2)/\(s.2.2.2.2.2.2.1.length<=2*s.1)) (λs=>xs.length - s.1) (0,none,0,none,0,[],[],decide (e.kd≠1)) (show ((0:Nat)<=xs.length)/\(ApI xs e (0:Nat) ([]:List Lk) (decide (e.kd≠1):Bool))/\(([]:List Ev).length<=2*(0:Nat)) from ⟨om,ApI.start,(by simp)⟩) (Aa C (Aa C (Aa C (Aa (Cr C (by first|rfl|simp)) (Aa C (Aa (Cr C (by first|rfl|simp)) (Aa C (Aa C (Aa B9 Bj))))))))) (show Fit κ _ (e8 b4 [e7 nd,.slice none ([]).length 0] 111::vc 146 (.slice none ([]).length 0) (([]))::vc 108 (.slice none ([]).length 0) (([]))::e8 b5 [e7 ((ei e).u),e7 ((ei e).v),e7 ((ei e).w),e7 ((ei e).lb),e7 ((ei e).sg),e7 ((ei e).tm)] 146::e8 b3 [e7 0,.slice none 0 0] 111::e8 b2 [e7 (e.kd),e7 (e.tm),e7 (e.u),e7 (e.v),e7 (e.w),e7 (e.lb),e7 (e.sg)] 108::e8 b1 [e7 nd,va] 111::I) from (Cc (Bt 108 _) (Cc (Bt 146 _) B4))) ?_)))))
     rintro ⟨k,a1,c1,a2,c2,O,chg,q⟩ hp
     dsimp only at hp ⊢
     obtain ⟨hk,hA,hcg⟩:=hp
     refine Ah (Gr (A9 C C) (Af (Au (A6 C (λc70=>?_) (λc70=>?_)))))
     ·refine Ay (Aj (Au (A4 (Ah (Gr (A3 (α:=Lk) (xs:=xs) Ar ty146 C C (Bh hl) om om) (Gr (Bp (α:=Lk) (xs:=xs) ty146 C (Bh hl) om om) (Ge1 (A8 ty146 C) λb6=>Ge0 (C5 ty146) ?_)))))))
      refine Af (En (σ:=(Option Addr)×Nat×(Option Addr)×Nat×(List Lk)×(List Ev)×Bool) (λs=>([(3,.pointer (some ⟨b2,0,none⟩)),(4,.pointer (some ⟨b3,0,none⟩)),(9,.pointer (some ⟨b4,0,none⟩)),(10,.slice s.2.2.1 s.2.2.2.2.2.1.length s.2.2.2.1),(11,.pointer (some ⟨b5,0,none⟩)),(12,.bool (s.2.2.2.2.2.2)),(14,.pointer (some ⟨b6,0,none⟩)),(67,va),(68,e7 ((xs.length:Nat):Int)),(69,e7 ((k:Int)))]:Env)) (λs=>e8 b4 [e7 nd,.slice s.1 s.2.2.2.2.1.length s.2.1] 111::vc 146 (.slice s.1 s.2.2.2.2.1.length s.2.1) (s.2.2.2.2.1)::vc 108 (.slice s.2.2.1 s.2.2.2.2.2.1.length s.2.2.2.1) (s.2.2.2.2.2.1)::e8 b6 [e7 ((e_ xs k).u),e7 ((e_ xs k).v),e7 ((e_ xs k).w),e7 ((e_ xs k).lb),e7 ((e_ xs k).sg),e7 ((e_ xs k).tm)] 146::e8 b5 [e7 ((ei e).u),e7 ((ei e).v),e7 ((ei e).w),e7 ((ei e).lb),e7 ((ei e).sg),e7 ((ei e).tm)] 146::e8 b3 [e7 0,.slice none 0 0] 111::e8 b2 [e7 (e.kd),e7 (e.tm),e7 (e.u),e7 (e.v),e7 (e.w),e7 (e.lb),e7 (e.sg)] 108::e8 b1 [e7 nd,va] 111::I) (λs=>(ApI xs e k s.2.2.2.2.1 s.2.2.2.2.2.2)/\((!s.2.2.2.2.2.2)=true->¬Pt.lt (ei e).p (e_ xs k).p)/\(s.2.2.2.2.2.1.length<=2*k+1)) ?_ ?_)
      ·refine Au (Bl mixed (Br (e8 b6 [e7 ((e_ xs k).u),e7 ((e_ xs k).v),e7 ((e_ xs k).w),e7 ((e_ xs k).lb),e7 ((e_ xs k).sg),e7 ((e_ xs k).tm)] 146::e8 b4 [e7 nd,.slice a1 O.length c1] 111::vc 146 (.slice a1 O.length c1) (O)::vc 108 (.slice a2 chg.length c2) (chg)::e8 b5 [e7 ((ei e).u),e7 ((ei e).v),e7 ((ei e).w),e7 ((ei e).lb),e7 ((ei e).sg),e7 ((ei e).tm)] 146::e8 b3 [e7 0,.slice none 0 0] 111::e8 b2 [e7 (e.kd),e7 (e.tm),e7 (e.u),e7 (e.v),e7 (e.w),e7 (e.lb),e7 (e.sg)] 108::e8 b1 [e7 nd,va] 111::I) 9 (Dr 0 C (Ad C) (Dr 1 C (Cb C) (Dr 2 C (Ad C) (D.splitb (d:=75) C (λg75=>?_) (λg75=>?_)))))))
       ·refine Dro 3 C (Bq (vs:=[_,_,_,_,_,_]) ty146) ?_
        refine Dro 5 C (Bq (vs:=[_,_,_,_,_,_]) ty146) ?_
        refine Ds1 4 (Sc0 C (Ao call130 C C (Edge5_ok (ei e))) ?_)
        refine Ds1 6 (Sc0 C (Ao call130 C C (Edge5_ok (e_ xs k))) ?_)
        refine Ds1 7 (Sc0 C (Ao call84 C C (Before03_ok (ei e).p (e_ xs k).p)) ?_)
        refine Dr 8 C (Am C C) (Dz (Aj (Aq (S11 81 14 3 4 9 10 11 12 67 68 69 C C C C C C C C C C C) (A6 C (λc81=>?_) (λc81=>?_)))))
        ·refine Bl mixed (Br (e8 b6 [e7 ((e_ xs k).u),e7 ((e_ xs k).v),e7 ((e_ xs k).w),e7 ((e_ xs k).lb),e7 ((e_ xs k).sg),e7 ((e_ xs k).tm)] 146::e8 b5 [e7 ((ei e).u),e7 ((ei e).v),e7 ((ei e).w),e7 ((ei e).lb),e7 ((ei e).sg),e7 ((ei e).tm)] 146::e8 b3 [e7 0,.slice none 0 0] 111::e8 b2 [e7 (e.kd),e7 (e.tm),e7 (e.u),e7 (e.v),e7 (e.w),e7 (e.lb),e7 (e.sg)] 108::e8 b1 [e7 nd,va] 111::I) 16 (Dr 0 C (Ab fld111_1 C) (Dr 2 C (Bq (vs:=[_,_,_,_,_,_]) ty146) ?_)))
         refine Dr 5 C (Ad C) (Dr 6 C (Bq (vs:=[_,_,_,_,_,_]) ty146) ?_)
         refine Dr 7 C (Ab fld108_1 C) (Dr 8 C (As ef) ?_)
         refine Ds (rs:=[1,3]) kr C C (Ej ?_ (Et ?_))
         ·refine Sr C (As ty109) A5 ?_
          refine Ds1 3 (Se1 C (B0 (α:=Lk) (cs:=[e7 ((ei e).u),e7 ((ei e).v),e7 ((ei e).w),e7 ((ei e).lb),e7 ((ei e).sg),e7 ((ei e).tm)]) (xs:=[⟨(ei e).u,(ei e).v,(ei e).w,(ei e).lb,(ei e).sg,(ei e).tm⟩]) Ar ty146 C C dc dc C kr C C) λad7=>?_)
          refine Ds1 4 (Se2 C (B1 (α:=Lk) (e:=146) (xs:=O) (ys:=([⟨(ei e).u,(ei e).v,(ei e).w,(ei e).lb,(ei e).sg,(ei e).tm⟩]:List Lk)) Ar ty146 C C C mm Bg (by have hol3:=hA.len;first|(simp only [List.length_append,List.length_cons,List.length_nil];omega)|(have hol4:=hA2.len;simp only [List.length_append,List.length_cons,List.length_nil];omega)) dc C (λ_ _=>am)) λad8 cp9=>?_)
          refine Dr 12 C (Ab fld111_1 C) (Ds1 9 (Sc0 C (Ao call163 C C (Set5_ok (ei e) e.tm)) ?_))
          refine Ds1 10 (Se1 C (B0 (α:=Ev) (cs:=[e7 1,e7 (e.tm),e7 ((ei e).u),e7 ((ei e).v),e7 ((ei e).w),e7 ((ei e).lb),e7 ((ei e).sg)]) (xs:=[⟨1,e.tm,(ei e).u,(ei e).v,(ei e).w,(ei e).lb,(ei e).sg⟩]) Az ty108 C C dc dc C kr C C) λad10=>?_)
          refine Ds1 11 (Se2 C (B1 (α:=Ev) (e:=108) (xs:=chg) (ys:=([⟨1,e.tm,(ei e).u,(ei e).v,(ei e).w,(ei e).lb,(ei e).sg⟩]:List Ev)) Az ty108 C C C mm Bg (by have hol3:=hA.len;first|(simp only [List.length_append,List.length_cons,List.length_nil];omega)|(have hol4:=hA2.len;simp only [List.length_append,List.length_cons,List.length_nil];omega)) dc C (λ_ _=>am)) λad11 cp12=>?_)
          refine Ds1 13 (Se0 C (Ed ty109) ?_)
          exact Dr 14 C (Bb C) (Dr 15 C (Bb C) (Dz (Di ((ad8),(cp9),(ad11),(cp12),(O++([⟨(ei e).u,(ei e).v,(ei e).w,(ei e).lb,(ei e).sg,(ei e).tm⟩]:List Lk)),(chg++([⟨1,e.tm,(ei e).u,(ei e).v,(ei e).w,(ei e).lb,(ei e).sg⟩]:List Ev)),(true)) (by dsimp only;exact ⟨(by first|exact hA.ins hasc om g75 c81|exact hA),(by intro h;first|exact absurd h dc|exact c81|(rw [h] at g75;cases g75)),olp⟩))))
         ·refine Se1 C (B0 (α:=Lk) (cs:=[e7 ((ei e).u),e7 ((ei e).v),e7 ((ei e).w),e7 ((ei e).lb),e7 ((ei e).sg),e7 ((ei e).tm)]) (xs:=[⟨(ei e).u,(ei e).v,(ei e).w,(ei e).lb,(ei e).sg,(ei e).tm⟩]) Ar ty146 C C dc dc C kr C C) λad13=>?_
          refine Ds1 1 (Sr C (As ty109) A5 ?_)
          refine Ds1 4 (Se2 C (B1 (α:=Lk) (e:=146) (xs:=O) (ys:=([⟨(ei e).u,(ei e).v,(ei e).w,(ei e).lb,(ei e).sg,(ei e).tm⟩]:List Lk)) Ar ty146 C C C mm Bg (by have hol3:=hA.len;first|(simp only [List.length_append,List.length_cons,List.length_nil];omega)|(have hol4:=hA2.len;simp only [List.length_append,List.length_cons,List.length_nil];omega)) dc C (λ_ _=>am)) λad14 cp15=>?_)
          refine Dr 12 C (Ab fld111_1 C) (Ds1 9 (Sc0 C (Ao call163 C C (Set5_ok (ei e) e.tm)) ?_))
          refine Ds1 10 (Se1 C (B0 (α:=Ev) (cs:=[e7 1,e7 (e.tm),e7 ((ei e).u),e7 ((ei e).v),e7 ((ei e).w),e7 ((ei e).lb),e7 ((ei e).sg)]) (xs:=[⟨1,e.tm,(ei e).u,(ei e).v,(ei e).w,(ei e).lb,(ei e).sg⟩]) Az ty108 C C dc dc C kr C C) λad16=>?_)
          refine Ds1 11 (Se2 C (B1 (α:=Ev) (e:=108) (xs:=chg) (ys:=([⟨1,e.tm,(ei e).u,(ei e).v,(ei e).w,(ei e).lb,(ei e).sg⟩]:List Ev)) Az ty108 C C C mm Bg (by have hol3:=hA.len;first|(simp only [List.length_append,List.length_cons,List.length_nil];omega)|(have hol4:=hA2.len;simp only [List.length_append,List.length_cons,List.length_nil];omega)) dc C (λ_ _=>am)) λad17 cp18=>?_)
          refine Ds1 13 (Se0 C (Ed ty109) ?_)
          exact Dr 14 C (Bb C) (Dr 15 C (Bb C) (Dz (Di ((ad14),(cp15),(ad17),(cp18),(O++([⟨(ei e).u,(ei e).v,(ei e).w,(ei e).lb,(ei e).sg,(ei e).tm⟩]:List Lk)),(chg++([⟨1,e.tm,(ei e).u,(ei e).v,(ei e).w,(ei e).lb,(ei e).sg⟩]:List Ev)),(true)) (by dsimp only;exact ⟨(by first|exact hA.ins hasc om g75 c81|exact hA),(by intro h;first|exact absurd h dc|exact c81|(rw [h] at g75;cases g75)),olp⟩))))
        ·exact Ay (Di ((a1),(c1),(a2),(c2),(O),(chg),(q)) (by dsimp only;exact ⟨(by first|exact hA.ins hasc om g75 c81|exact hA),(by intro h;first|exact absurd h dc|exact c81|(rw [h] at g75;cases g75)),olp⟩))
       ·exact Dpo 3 C (Dpo 5 C (Dpo 4 C (Dpo 6 C (Dpo 7 C (Dr 8 C (Al C C) (Dz (Aj (Aq (S11 81 14 3 4 9 10 11 12 67 68 69 C C C C C C C C C C C) (C2 C (Ay (Di ((a1),(c1),(a2),(c2),(O),(chg),(q)) (by dsimp only;exact ⟨(by first|exact hA.ins hasc om g75 c81|exact hA),(by intro h;first|exact absurd h dc|exact c81|(rw [h] at g75;cases g75)),olp⟩))))))))))))
      ·rintro ⟨a3,c3,a4,c4,O2,chg2,q2⟩ hp
       obtain ⟨hA2,hM,hc2⟩:(ApI xs e k O2 q2)/\((!q2)=true->¬Pt.lt (ei e).p (e_ xs k).p)/\(chg2.length<=2*k+1):=hp
       show W Tryz.prog κ 180 _ _ ([(3,.pointer (some ⟨b2,0,none⟩)),(4,.pointer (some ⟨b3,0,none⟩)),(9,.pointer (some ⟨b4,0,none⟩)),(10,.slice a4 chg2.length c4),(11,.pointer (some ⟨b5,0,none⟩)),(12,.bool q2),(14,.pointer (some ⟨b6,0,none⟩)),(67,va),(68,e7 ((xs.length:Nat):Int)),(69,e7 ((k:Int)))]:Env) (e8 b4 [e7 nd,.slice a3 O2.length c3] 111::vc 146 (.slice a3 O2.length c3) (O2)::vc 108 (.slice a4 chg2.length c4) (chg2)::e8 b6 [e7 ((e_ xs k).u),e7 ((e_ xs k).v),e7 ((e_ xs k).w),e7 ((e_ xs k).lb),e7 ((e_ xs k).sg),e7 ((e_ xs k).tm)] 146::e8 b5 [e7 ((ei e).u),e7 ((ei e).v),e7 ((ei e).w),e7 ((ei e).lb),e7 ((ei e).sg),e7 ((ei e).tm)] 146::e8 b3 [e7 0,.slice none 0 0] 111::e8 b2 [e7 (e.kd),e7 (e.tm),e7 (e.u),e7 (e.v),e7 (e.w),e7 (e.lb),e7 (e.sg)] 108::e8 b1 [e7 nd,va] 111::I)
       refine Au (Bl mixed (Br (e8 b4 [e7 nd,.slice a3 O2.length c3] 111::vc 146 (.slice a3 O2.length c3) (O2)::vc 108 (.slice a4 chg2.length c4) (chg2)::e8 b6 [e7 ((e_ xs k).u),e7 ((e_ xs k).v),e7 ((e_ xs k).w),e7 ((e_ xs k).lb),e7 ((e_ xs k).sg),e7 ((e_ xs k).tm)] 146::e8 b5 [e7 ((ei e).u),e7 ((ei e).v),e7 ((ei e).w),e7 ((ei e).lb),e7 ((ei e).sg),e7 ((ei e).tm)] 146::e8 b3 [e7 0,.slice none 0 0] 111::e8 b2 [e7 (e.kd),e7 (e.tm),e7 (e.u),e7 (e.v),e7 (e.w),e7 (e.lb),e7 (e.sg)] 108::e8 b1 [e7 nd,va] 111::I) 6 (Dr 0 C (Bq (vs:=[_,_,_,_,_,_]) ty146) ?_)))
       refine Dr 2 C (Bq (vs:=[_,_,_,_,_,_]) ty146) ?_
       refine Ds1 1 (Sc0 C (Ao call130 C C (Edge5_ok (e_ xs k))) ?_)
       refine Ds1 3 (Sc0 C (Ao call130 C C (Edge5_ok (ei e))) ?_)
       refine Dr 4 C (Runs.eqlT (α:=Pt) (a:=(e_ xs k).p) (b:=(ei e).p) eqt135 C C) (Dr 5 C (Bb C) (Dz (Aj (Aq (S11 15 3 4 9 10 11 12 14 67 68 69 C C C C C C C C C C C) (A4 (En (σ:=Bool) (λs=>([(3,.pointer (some ⟨b2,0,none⟩)),(4,.pointer (some ⟨b3,0,none⟩)),(9,.pointer (some ⟨b4,0,none⟩)),(10,.slice a4 chg2.length c4),(11,.pointer (some ⟨b5,0,none⟩)),(12,.bool q2),(14,.pointer (some ⟨b6,0,none⟩)),(15,.bool (decide (((e_ xs k).p)=((ei e).p)))),(67,va),(68,e7 ((xs.length:Nat):Int)),(69,e7 ((k:Int))),(106,.bool s)]:Env)) (λs=>e8 b4 [e7 nd,.slice a3 O2.length c3] 111::vc 146 (.slice a3 O2.length c3) (O2)::vc 108 (.slice a4 chg2.length c4) (chg2)::e8 b6 [e7 ((e_ xs k).u),e7 ((e_ xs k).v),e7 ((e_ xs k).w),e7 ((e_ xs k).lb),e7 ((e_ xs k).sg),e7 ((e_ xs k).tm)] 146::e8 b5 [e7 ((ei e).u),e7 ((ei e).v),e7 ((ei e).w),e7 ((ei e).lb),e7 ((ei e).sg),e7 ((ei e).tm)] 146::e8 b3 [e7 0,.slice none 0 0] 111::e8 b2 [e7 (e.kd),e7 (e.tm),e7 (e.u),e7 (e.v),e7 (e.w),e7 (e.lb),e7 (e.sg)] 108::e8 b1 [e7 nd,va] 111::I) (λs=>(s=decide (e.kd=1/\(e_ xs k).p=(ei e).p))) ?_ ?_))))))
       ·refine Ax (Gf fld108_0 C (Gl ef ?_))
        refine Gr (Bi C C) (Gm C (Ba (d:=110) C (λg110=>?_) (λg110=>?_)))
        ·exact e9 (Ad C) (Gr (Am C C) (Ga C (Bd (Di ((decide (((e_ xs k).p)=((ei e).p)))) (by first|exact decide_eq_decide.2 ⟨λh=>⟨by omega,h⟩,λh=>h.2⟩|exact (decide_eq_false (λh=>by omega)).symm) (hI:=by (try dsimp only);exact (Dj _))))))
        ·exact eb (Gr (Al C C) (Ga C (Bd (Di ((false)) (by first|exact decide_eq_decide.2 ⟨λh=>⟨by omega,h⟩,λh=>h.2⟩|exact (decide_eq_false (λh=>by omega)).symm) (hI:=by (try dsimp only);exact (Dj _))))))
       ·rintro y hp
        have hy:(y=decide (e.kd=1/\(e_ xs k).p=(ei e).p)):=hp
        show W Tryz.prog κ 180 _ _ ([(3,.pointer (some ⟨b2,0,none⟩)),(4,.pointer (some ⟨b3,0,none⟩)),(9,.pointer (some ⟨b4,0,none⟩)),(10,.slice a4 chg2.length c4),(11,.pointer (some ⟨b5,0,none⟩)),(12,.bool q2),(14,.pointer (some ⟨b6,0,none⟩)),(15,.bool (decide (((e_ xs k).p)=((ei e).p)))),(67,va),(68,e7 ((xs.length:Nat):Int)),(69,e7 ((k:Int))),(106,.bool y)]:Env) (e8 b4 [e7 nd,.slice a3 O2.length c3] 111::vc 146 (.slice a3 O2.length c3) (O2)::vc 108 (.slice a4 chg2.length c4) (chg2)::e8 b6 [e7 ((e_ xs k).u),e7 ((e_ xs k).v),e7 ((e_ xs k).w),e7 ((e_ xs k).lb),e7 ((e_ xs k).sg),e7 ((e_ xs k).tm)] 146::e8 b5 [e7 ((ei e).u),e7 ((ei e).v),e7 ((ei e).w),e7 ((ei e).lb),e7 ((ei e).sg),e7 ((ei e).tm)] 146::e8 b3 [e7 0,.slice none 0 0] 111::e8 b2 [e7 (e.kd),e7 (e.tm),e7 (e.u),e7 (e.v),e7 (e.w),e7 (e.lb),e7 (e.sg)] 108::e8 b1 [e7 nd,va] 111::I)
        refine Ei C (λc106=>?_) (λc106=>?_)
        ·refine Au (Ah (Gl6 ty146 ?_))
         refine Gl6 ty146 ?_
         refine Gr (Runs.neqT (α:=Lk) (a:=(e_ xs k)) (b:=(ei e)) eqt146 C C) (Af (Aq (S9 115 3 4 9 10 11 67 68 69 C C C C C C C C C) (A6 C (λc115=>?_) (λc115=>?_))))
         ·refine Ax (Gm C (Gl6 ty146 ?_))
          refine Gf fld108_1 C (Gl ef ?_)
          refine Gc0 (Ao call163 C C (Set5_ok (ei e) e.tm)) ?_
          refine Ge1 (B0 (α:=Ev) (cs:=[e7 1,e7 (e.tm),e7 ((ei e).u),e7 ((ei e).v),e7 ((ei e).w),e7 ((ei e).lb),e7 ((ei e).sg)]) (xs:=[⟨1,e.tm,(ei e).u,(ei e).v,(ei e).w,(ei e).lb,(ei e).sg⟩]) Az ty108 C C dc dc C kr C C) λad19=>?_
          refine Ge2 (B1 (α:=Ev) (e:=108) (xs:=chg2) (ys:=([⟨1,e.tm,(ei e).u,(ei e).v,(ei e).w,(ei e).lb,(ei e).sg⟩]:List Ev)) Az ty108 C C C mm Bg (by have hol3:=hA.len;first|(simp only [List.length_append,List.length_cons,List.length_nil];omega)|(have hol4:=hA2.len;simp only [List.length_append,List.length_cons,List.length_nil];omega)) dc C (λ_ _=>am)) λad20 cp21=>?_
          refine Ga C (Af (Aq (S8 10 3 4 9 11 67 68 69 C C C C C C C C) (Ax (Gf fld111_1 C (Gl ty109 ?_)))))
          refine Gl6 ty146 ?_
          refine Ge1 (B0 (α:=Lk) (cs:=[e7 ((ei e).u),e7 ((ei e).v),e7 ((ei e).w),e7 ((ei e).lb),e7 ((ei e).sg),e7 ((ei e).tm)]) (xs:=[⟨(ei e).u,(ei e).v,(ei e).w,(ei e).lb,(ei e).sg,(ei e).tm⟩]) Ar ty146 C C dc dc C kr C C) λad22=>?_
          refine Ge2 (B1 (α:=Lk) (e:=146) (xs:=O2) (ys:=([⟨(ei e).u,(ei e).v,(ei e).w,(ei e).lb,(ei e).sg,(ei e).tm⟩]:List Lk)) Ar ty146 C C C mm Bg (by have hol3:=hA.len;first|(simp only [List.length_append,List.length_cons,List.length_nil];omega)|(have hol4:=hA2.len;simp only [List.length_append,List.length_cons,List.length_nil];omega)) dc C (λ_ _=>am)) λad23 cp24=>?_
          refine Gf fld111_1 C (Ge0 (Ed ty109) ?_)
          exact Ga C (Bd (Ak (Ak (Aj (Aq (S9 12 10 3 4 9 11 67 68 69 C C C C C C C C C) (Ax (Gr (Rad C C) (Gm C (Bd (B2 ((k+1),(ad23),(cp24),(ad20),(cp21),(O2++([⟨(ei e).u,(ei e).v,(ei e).w,(ei e).lb,(ei e).sg,(ei e).tm⟩]:List Lk)),(chg2++([⟨1,e.tm,(ei e).u,(ei e).v,(ei e).w,(ei e).lb,(ei e).sg⟩]:List Ev)),(true)) (by dsimp only;exact ⟨om,(by first|exact hA2.hit hasc om (of_decide_eq_true (hy.symm.trans c106)).1 (of_decide_eq_true (hy.symm.trans c106)).2|exact hA2.drop om (of_decide_eq_true (hz.symm.trans c129)).1 (of_decide_eq_true (hz.symm.trans c129)).2|exact hA2.keep hasc om hM (λh1 h2=>of_decide_eq_false (hy.symm.trans c106) ⟨h1,h2⟩) (λh1=>Classical.byContradiction λhh=>of_decide_eq_false (hz.symm.trans c129) ⟨h1,by simpa using hh⟩)),olp⟩)))))))))))
         ·refine Ay (Aj (Ax (Gf fld111_1 C (Gl ty109 ?_))))
          refine Gl6 ty146 ?_
          refine Ge1 (B0 (α:=Lk) (cs:=[e7 ((ei e).u),e7 ((ei e).v),e7 ((ei e).w),e7 ((ei e).lb),e7 ((ei e).sg),e7 ((ei e).tm)]) (xs:=[⟨(ei e).u,(ei e).v,(ei e).w,(ei e).lb,(ei e).sg,(ei e).tm⟩]) Ar ty146 C C dc dc C kr C C) λad25=>?_
          refine Ge2 (B1 (α:=Lk) (e:=146) (xs:=O2) (ys:=([⟨(ei e).u,(ei e).v,(ei e).w,(ei e).lb,(ei e).sg,(ei e).tm⟩]:List Lk)) Ar ty146 C C C mm Bg (by have hol3:=hA.len;first|(simp only [List.length_append,List.length_cons,List.length_nil];omega)|(have hol4:=hA2.len;simp only [List.length_append,List.length_cons,List.length_nil];omega)) dc C (λ_ _=>am)) λad26 cp27=>?_
          refine Gf fld111_1 C (Ge0 (Ed ty109) ?_)
          exact Ga C (Bd (Ak (Ak (Aj (Aq (S9 12 3 4 9 10 11 67 68 69 C C C C C C C C C) (Ax (Gr (Rad C C) (Gm C (Bd (B2 ((k+1),(ad26),(cp27),(a4),(c4),(O2++([⟨(ei e).u,(ei e).v,(ei e).w,(ei e).lb,(ei e).sg,(ei e).tm⟩]:List Lk)),(chg2),(true)) (by dsimp only;exact ⟨om,(by first|exact hA2.hit hasc om (of_decide_eq_true (hy.symm.trans c106)).1 (of_decide_eq_true (hy.symm.trans c106)).2|exact hA2.drop om (of_decide_eq_true (hz.symm.trans c129)).1 (of_decide_eq_true (hz.symm.trans c129)).2|exact hA2.keep hasc om hM (λh1 h2=>of_decide_eq_false (hy.symm.trans c106) ⟨h1,h2⟩) (λh1=>Classical.byContradiction λhh=>of_decide_eq_false (hz.symm.trans c129) ⟨h1,by simpa using hh⟩)),olp⟩)))))))))))
        ·refine En (σ:=Bool) (λs=>([(3,.pointer (some ⟨b2,0,none⟩)),(4,.pointer (some ⟨b3,0,none⟩)),(9,.pointer (some ⟨b4,0,none⟩)),(10,.slice a4 chg2.length c4),(11,.pointer (some ⟨b5,0,none⟩)),(12,.bool q2),(14,.pointer (some ⟨b6,0,none⟩)),(67,va),(68,e7 ((xs.length:Nat):Int)),(69,e7 ((k:Int))),(129,.bool s)]:Env)) (λs=>e8 b4 [e7 nd,.slice a3 O2.length c3] 111::vc 146 (.slice a3 O2.length c3) (O2)::vc 108 (.slice a4 chg2.length c4) (chg2)::e8 b6 [e7 ((e_ xs k).u),e7 ((e_ xs k).v),e7 ((e_ xs k).w),e7 ((e_ xs k).lb),e7 ((e_ xs k).sg),e7 ((e_ xs k).tm)] 146::e8 b5 [e7 ((ei e).u),e7 ((ei e).v),e7 ((ei e).w),e7 ((ei e).lb),e7 ((ei e).sg),e7 ((ei e).tm)] 146::e8 b3 [e7 0,.slice none 0 0] 111::e8 b2 [e7 (e.kd),e7 (e.tm),e7 (e.u),e7 (e.v),e7 (e.w),e7 (e.lb),e7 (e.sg)] 108::e8 b1 [e7 nd,va] 111::I) (λs=>(s=decide (e.kd≠1/\hitE e (e_ xs k)=true))) ?_ ?_
         ·refine Ax (Gf fld108_0 C (Gl ef ?_))
          refine Gr (Bi C C) (Gm C (Ba (d:=133) C (λg133=>?_) (λg133=>?_)))
          ·refine e9 (Ad C) (Gr (Am C C) (Gm C (Ba (d:=136) C (λg136=>?_) (λg136=>?_))))
           ·exact eb (eb (eb (eb (ee (ee (ee (ee (ee (ee (ee (ee (ee (ee (ee (ee (eb (Gr (Am C C) (Ga C (Bd (Di ((true)) (by first|(exfalso;omega)|exact (decide_eq_true ⟨by omega,by first|(rw [hit_two om];exact decide_eq_true asm)|(rw [hit_oth om];exact decide_eq_true om)⟩).symm|exact (decide_eq_false (λh=>by first|omega|(have h2:=h.2;first|(rw [hit_two om] at h2;exact absurd (of_decide_eq_true h2) asm)|(rw [hit_oth om] at h2;have h3:=of_decide_eq_true h2;omega)))).symm|exact decide_eq_decide.2 ⟨λh=>⟨by omega,by rw [hit_oth om];exact decide_eq_true (.inr h)⟩,λh=>by have h2:=h.2;rw [hit_oth om] at h2;have h3:=of_decide_eq_true h2;omega⟩) (hI:=by (try dsimp only);exact (Dj _))))))))))))))))))))))
           ·refine e9 (Ab fld108_0 C) (e9 (As ef) ?_)
            refine e9 (Bi C C) (e9 (Ad C) (Ba (d:=140) C (λg140=>?_) (λg140=>?_)))
            ·refine e9 (Ab fld146_0 C) (e9 (As ef) ?_)
             refine e9 (Ab fld108_2 C) (e9 (As ef) ?_)
             refine e9 (Bi C C) (e9 (Ad C) (Ba (d:=146) C (λg146=>?_) (λg146=>?_)))
             ·exact eb (eb (eb (eb (eb (e9 (Am C C) (e9 (Am C C) (Gr (Al C C) (Ga C (Bd (Di ((true)) (by first|(exfalso;omega)|exact (decide_eq_true ⟨by omega,by first|(rw [hit_two om];exact decide_eq_true asm)|(rw [hit_oth om];exact decide_eq_true om)⟩).symm|exact (decide_eq_false (λh=>by first|omega|(have h2:=h.2;first|(rw [hit_two om] at h2;exact absurd (of_decide_eq_true h2) asm)|(rw [hit_oth om] at h2;have h3:=of_decide_eq_true h2;omega)))).symm|exact decide_eq_decide.2 ⟨λh=>⟨by omega,by rw [hit_oth om];exact decide_eq_true (.inr h)⟩,λh=>by have h2:=h.2;rw [hit_oth om] at h2;have h3:=of_decide_eq_true h2;omega⟩) (hI:=by (try dsimp only);exact (Dj _))))))))))))
             ·refine e9 (Ab fld146_1 C) (e9 (As ef) ?_)
              refine e9 (Ab fld108_2 C) (e9 (As ef) ?_)
              exact e9 (Bi C C) (e9 (Al C C) (e9 (Am C C) (Gr (Al C C) (Ga C (Bd (Di ((decide (((e_ xs k).v)=e.u))) (by first|(exfalso;omega)|exact (decide_eq_true ⟨by omega,by first|(rw [hit_two om];exact decide_eq_true asm)|(rw [hit_oth om];exact decide_eq_true om)⟩).symm|exact (decide_eq_false (λh=>by first|omega|(have h2:=h.2;first|(rw [hit_two om] at h2;exact absurd (of_decide_eq_true h2) asm)|(rw [hit_oth om] at h2;have h3:=of_decide_eq_true h2;omega)))).symm|exact decide_eq_decide.2 ⟨λh=>⟨by omega,by rw [hit_oth om];exact decide_eq_true (.inr h)⟩,λh=>by have h2:=h.2;rw [hit_oth om] at h2;have h3:=of_decide_eq_true h2;omega⟩) (hI:=by (try dsimp only);exact (Dj _))))))))
            ·exact eb (eb (eb (eb (eb (eb (ee (ee (ee (ee (ee (eb (e9 (Al C C) (Gr (Al C C) (Ga C (Bd (Di ((false)) (by first|(exfalso;omega)|exact (decide_eq_true ⟨by omega,by first|(rw [hit_two om];exact decide_eq_true asm)|(rw [hit_oth om];exact decide_eq_true om)⟩).symm|exact (decide_eq_false (λh=>by first|omega|(have h2:=h.2;first|(rw [hit_two om] at h2;exact absurd (of_decide_eq_true h2) asm)|(rw [hit_oth om] at h2;have h3:=of_decide_eq_true h2;omega)))).symm|exact decide_eq_decide.2 ⟨λh=>⟨by omega,by rw [hit_oth om];exact decide_eq_true (.inr h)⟩,λh=>by have h2:=h.2;rw [hit_oth om] at h2;have h3:=of_decide_eq_true h2;omega⟩) (hI:=by (try dsimp only);exact (Dj _))))))))))))))))))
          ·refine eb (Gr (Al C C) (Gm C (e9 (Ab fld108_0 C) (e9 (As ef) ?_))))
           refine e9 (Bi C C) (e9 (Ad C) (Ba (d:=140) C (λg140=>?_) (λg140=>?_)))
           ·refine e9 (Ab fld146_0 C) (e9 (As ef) ?_)
            refine e9 (Ab fld108_2 C) (e9 (As ef) ?_)
            refine e9 (Bi C C) (e9 (Ad C) (Ba (d:=146) C (λg146=>?_) (λg146=>?_)))
            ·exact eb (eb (eb (eb (eb (e9 (Am C C) (e9 (Am C C) (Gr (Al C C) (Ga C (Bd (Di ((true)) (by first|(exfalso;omega)|exact (decide_eq_true ⟨by omega,by first|(rw [hit_two om];exact decide_eq_true asm)|(rw [hit_oth om];exact decide_eq_true om)⟩).symm|exact (decide_eq_false (λh=>by first|omega|(have h2:=h.2;first|(rw [hit_two om] at h2;exact absurd (of_decide_eq_true h2) asm)|(rw [hit_oth om] at h2;have h3:=of_decide_eq_true h2;omega)))).symm|exact decide_eq_decide.2 ⟨λh=>⟨by omega,by rw [hit_oth om];exact decide_eq_true (.inr h)⟩,λh=>by have h2:=h.2;rw [hit_oth om] at h2;have h3:=of_decide_eq_true h2;omega⟩) (hI:=by (try dsimp only);exact (Dj _))))))))))))
            ·refine e9 (Ab fld146_1 C) (e9 (As ef) ?_)
             refine e9 (Ab fld108_2 C) (e9 (As ef) ?_)
             exact e9 (Bi C C) (e9 (Al C C) (e9 (Am C C) (Gr (Al C C) (Ga C (Bd (Di ((decide (((e_ xs k).v)=e.u))) (by first|(exfalso;omega)|exact (decide_eq_true ⟨by omega,by first|(rw [hit_two om];exact decide_eq_true asm)|(rw [hit_oth om];exact decide_eq_true om)⟩).symm|exact (decide_eq_false (λh=>by first|omega|(have h2:=h.2;first|(rw [hit_two om] at h2;exact absurd (of_decide_eq_true h2) asm)|(rw [hit_oth om] at h2;have h3:=of_decide_eq_true h2;omega)))).symm|exact decide_eq_decide.2 ⟨λh=>⟨by omega,by rw [hit_oth om];exact decide_eq_true (.inr h)⟩,λh=>by have h2:=h.2;rw [hit_oth om] at h2;have h3:=of_decide_eq_true h2;omega⟩) (hI:=by (try dsimp only);exact (Dj _))))))))
           ·exact eb (eb (eb (eb (eb (eb (ee (ee (ee (ee (ee (eb (e9 (Al C C) (Gr (Al C C) (Ga C (Bd (Di ((false)) (by first|(exfalso;omega)|exact (decide_eq_true ⟨by omega,by first|(rw [hit_two om];exact decide_eq_true asm)|(rw [hit_oth om];exact decide_eq_true om)⟩).symm|exact (decide_eq_false (λh=>by first|omega|(have h2:=h.2;first|(rw [hit_two om] at h2;exact absurd (of_decide_eq_true h2) asm)|(rw [hit_oth om] at h2;have h3:=of_decide_eq_true h2;omega)))).symm|exact decide_eq_decide.2 ⟨λh=>⟨by omega,by rw [hit_oth om];exact decide_eq_true (.inr h)⟩,λh=>by have h2:=h.2;rw [hit_oth om] at h2;have h3:=of_decide_eq_true h2;omega⟩) (hI:=by (try dsimp only);exact (Dj _))))))))))))))))))
         ·rintro z hp
          have hz:(z=decide (e.kd≠1/\hitE e (e_ xs k)=true)):=hp
          show W Tryz.prog κ 180 _ _ ([(3,.pointer (some ⟨b2,0,none⟩)),(4,.pointer (some ⟨b3,0,none⟩)),(9,.pointer (some ⟨b4,0,none⟩)),(10,.slice a4 chg2.length c4),(11,.pointer (some ⟨b5,0,none⟩)),(12,.bool q2),(14,.pointer (some ⟨b6,0,none⟩)),(67,va),(68,e7 ((xs.length:Nat):Int)),(69,e7 ((k:Int))),(129,.bool z)]:Env) (e8 b4 [e7 nd,.slice a3 O2.length c3] 111::vc 146 (.slice a3 O2.length c3) (O2)::vc 108 (.slice a4 chg2.length c4) (chg2)::e8 b6 [e7 ((e_ xs k).u),e7 ((e_ xs k).v),e7 ((e_ xs k).w),e7 ((e_ xs k).lb),e7 ((e_ xs k).sg),e7 ((e_ xs k).tm)] 146::e8 b5 [e7 ((ei e).u),e7 ((ei e).v),e7 ((ei e).w),e7 ((ei e).lb),e7 ((ei e).sg),e7 ((ei e).tm)] 146::e8 b3 [e7 0,.slice none 0 0] 111::e8 b2 [e7 (e.kd),e7 (e.tm),e7 (e.u),e7 (e.v),e7 (e.w),e7 (e.lb),e7 (e.sg)] 108::e8 b1 [e7 nd,va] 111::I)
          refine Ei C (λc129=>?_) (λc129=>?_)
          ·refine Ax (Gm C (Gl6 ty146 ?_))
           refine Gf fld108_1 C (Gl ef ?_)
           refine Gc0 (Ao call164 C C (Cut5_ok (e_ xs k) e.tm)) ?_
           refine Ge1 (B0 (α:=Ev) (cs:=[e7 2,e7 (e.tm),e7 ((e_ xs k).u),e7 ((e_ xs k).v),e7 0,e7 0,e7 0]) (xs:=[⟨2,e.tm,(e_ xs k).u,(e_ xs k).v,0,0,0⟩]) Az ty108 C C dc dc C kr C C) λad28=>?_
           refine Ge2 (B1 (α:=Ev) (e:=108) (xs:=chg2) (ys:=([⟨2,e.tm,(e_ xs k).u,(e_ xs k).v,0,0,0⟩]:List Ev)) Az ty108 C C C mm Bg (by have hol3:=hA.len;first|(simp only [List.length_append,List.length_cons,List.length_nil];omega)|(have hol4:=hA2.len;simp only [List.length_append,List.length_cons,List.length_nil];omega)) dc C (λ_ _=>am)) λad29 cp30=>?_
           exact Ga C (Bd (Ak (Ak (Aj (Aq (S9 10 3 4 9 11 12 67 68 69 C C C C C C C C C) (Ax (Gr (Rad C C) (Gm C (Bd (B2 ((k+1),(a3),(c3),(ad29),(cp30),(O2),(chg2++([⟨2,e.tm,(e_ xs k).u,(e_ xs k).v,0,0,0⟩]:List Ev)),(q2)) (by dsimp only;exact ⟨om,(by first|exact hA2.hit hasc om (of_decide_eq_true (hy.symm.trans c106)).1 (of_decide_eq_true (hy.symm.trans c106)).2|exact hA2.drop om (of_decide_eq_true (hz.symm.trans c129)).1 (of_decide_eq_true (hz.symm.trans c129)).2|exact hA2.keep hasc om hM (λh1 h2=>of_decide_eq_false (hy.symm.trans c106) ⟨h1,h2⟩) (λh1=>Classical.byContradiction λhh=>of_decide_eq_false (hz.symm.trans c129) ⟨h1,by simpa using hh⟩)),olp⟩)))))))))))
          ·refine Ax (Gf fld111_1 C (Gl ty109 ?_))
           refine Gl6 ty146 ?_
           refine Ge1 (B0 (α:=Lk) (cs:=[e7 ((e_ xs k).u),e7 ((e_ xs k).v),e7 ((e_ xs k).w),e7 ((e_ xs k).lb),e7 ((e_ xs k).sg),e7 ((e_ xs k).tm)]) (xs:=[⟨(e_ xs k).u,(e_ xs k).v,(e_ xs k).w,(e_ xs k).lb,(e_ xs k).sg,(e_ xs k).tm⟩]) Ar ty146 C C dc dc C kr C C) λad31=>?_
           refine Ge2 (B1 (α:=Lk) (e:=146) (xs:=O2) (ys:=([⟨(e_ xs k).u,(e_ xs k).v,(e_ xs k).w,(e_ xs k).lb,(e_ xs k).sg,(e_ xs k).tm⟩]:List Lk)) Ar ty146 C C C mm Bg (by have hol3:=hA.len;first|(simp only [List.length_append,List.length_cons,List.length_nil];omega)|(have hol4:=hA2.len;simp only [List.length_append,List.length_cons,List.length_nil];omega)) dc C (λ_ _=>am)) λad32 cp33=>?_
           refine Gf fld111_1 C (Ge0 (Ed ty109) ?_)
           exact Bd (Ak (Ak (Aj (Aq (S9 3 4 9 10 11 12 67 68 69 C C C C C C C C C) (Ax (Gr (Rad C C) (Gm C (Bd (B2 ((k+1),(ad32),(cp33),(a4),(c4),(O2++([⟨(e_ xs k).u,(e_ xs k).v,(e_ xs k).w,(e_ xs k).lb,(e_ xs k).sg,(e_ xs k).tm⟩]:List Lk)),(chg2),(q2)) (by dsimp only;exact ⟨om,(by first|exact hA2.hit hasc om (of_decide_eq_true (hy.symm.trans c106)).1 (of_decide_eq_true (hy.symm.trans c106)).2|exact hA2.drop om (of_decide_eq_true (hz.symm.trans c129)).1 (of_decide_eq_true (hz.symm.trans c129)).2|exact hA2.keep hasc om hM (λh1 h2=>of_decide_eq_false (hy.symm.trans c106) ⟨h1,h2⟩) (λh1=>Classical.byContradiction λhh=>of_decide_eq_false (hz.symm.trans c129) ⟨h1,by simpa using hh⟩)),olp⟩))))))))))
     ·refine Bs (Ap (Ap (A7 (Aj (Au (Ah (Gm C (Gr (Cb C) (Af (Ei C (λc164=>?_) (λc164=>?_)))))))))))
      ·refine Bl mixed (Br (e8 b5 [e7 ((ei e).u),e7 ((ei e).v),e7 ((ei e).w),e7 ((ei e).lb),e7 ((ei e).sg),e7 ((ei e).tm)] 146::e8 b3 [e7 0,.slice none 0 0] 111::e8 b2 [e7 (e.kd),e7 (e.tm),e7 (e.u),e7 (e.v),e7 (e.w),e7 (e.lb),e7 (e.sg)] 108::e8 b1 [e7 nd,va] 111::I) 15 (Dr 0 C (Ab fld111_1 C) (Dr 2 C (Bq (vs:=[_,_,_,_,_,_]) ty146) ?_)))
       refine Dr 5 C (Ad C) (Dr 6 C (Bq (vs:=[_,_,_,_,_,_]) ty146) ?_)
       refine Dr 7 C (Ab fld108_1 C) (Dr 8 C (As ef) ?_)
       refine Ds (rs:=[1,3]) kr C C (Ej ?_ (Et ?_))
       ·refine Sr C (As ty109) A5 ?_
        refine Ds1 3 (Se1 C (B0 (α:=Lk) (cs:=[e7 ((ei e).u),e7 ((ei e).v),e7 ((ei e).w),e7 ((ei e).lb),e7 ((ei e).sg),e7 ((ei e).tm)]) (xs:=[⟨(ei e).u,(ei e).v,(ei e).w,(ei e).lb,(ei e).sg,(ei e).tm⟩]) Ar ty146 C C dc dc C kr C C) λad34=>?_)
        refine Ds1 4 (Se2 C (B1 (α:=Lk) (e:=146) (xs:=O) (ys:=([⟨(ei e).u,(ei e).v,(ei e).w,(ei e).lb,(ei e).sg,(ei e).tm⟩]:List Lk)) Ar ty146 C C C mm Bg (by have hol3:=hA.len;first|(simp only [List.length_append,List.length_cons,List.length_nil];omega)|(have hol4:=hA2.len;simp only [List.length_append,List.length_cons,List.length_nil];omega)) dc C (λ_ _=>am)) λad35 cp36=>?_)
        refine Dr 12 C (Ab fld111_1 C) (Ds1 9 (Sc0 C (Ao call163 C C (Set5_ok (ei e) e.tm)) ?_))
        refine Ds1 10 (Se1 C (B0 (α:=Ev) (cs:=[e7 1,e7 (e.tm),e7 ((ei e).u),e7 ((ei e).v),e7 ((ei e).w),e7 ((ei e).lb),e7 ((ei e).sg)]) (xs:=[⟨1,e.tm,(ei e).u,(ei e).v,(ei e).w,(ei e).lb,(ei e).sg⟩]) Az ty108 C C dc dc C kr C C) λad37=>?_)
        refine Ds1 11 (Se2 C (B1 (α:=Ev) (e:=108) (xs:=chg) (ys:=([⟨1,e.tm,(ei e).u,(ei e).v,(ei e).w,(ei e).lb,(ei e).sg⟩]:List Ev)) Az ty108 C C C mm Bg (by have hol3:=hA.len;first|(simp only [List.length_append,List.length_cons,List.length_nil];omega)|(have hol4:=hA2.len;simp only [List.length_append,List.length_cons,List.length_nil];omega)) dc C (λ_ _=>am)) λad38 cp39=>?_)
        refine Ds1 13 (Se0 C (Ed ty109) ?_)
        refine Dr 14 C (Bb C) (Dz (Aj (Aq (S3 10 4 9 C C C) (Ah (Gl2 ty111 ?_)))))
        refine Gm C (Ge0 (Cd ty111) ?_)
        refine Ga C (Ga C (Af (Aw ?_)))
        have hE:O++([⟨(ei e).u,(ei e).v,(ei e).w,(ei e).lb,(ei e).sg,(ei e).tm⟩]:List Lk)=(em xs e):=by first|exact hA.fin om asm|exact hA.finIns om asm
        exact V.retc2 C ty111 C C C mm C (vc 146 (.slice ad35 (em xs e).length cp36) (em xs e)::I) (by rw [←hE];exact A5) ⟨⟨ad35,cp36,ad38,(chg++([⟨1,e.tm,(ei e).u,(ei e).v,(ei e).w,(ei e).lb,(ei e).sg⟩]:List Ev)).length,cp39⟩,⟨by rw [←hE]<;>rfl,by first|(show _<=2*xs.length+1;omega)|(show _<=2*xs.length+1;simp only [List.length_append,List.length_cons,List.length_nil];omega)⟩,rfl⟩
       ·refine Se1 C (B0 (α:=Lk) (cs:=[e7 ((ei e).u),e7 ((ei e).v),e7 ((ei e).w),e7 ((ei e).lb),e7 ((ei e).sg),e7 ((ei e).tm)]) (xs:=[⟨(ei e).u,(ei e).v,(ei e).w,(ei e).lb,(ei e).sg,(ei e).tm⟩]) Ar ty146 C C dc dc C kr C C) λad40=>?_
        refine Ds1 1 (Sr C (As ty109) A5 ?_)
        refine Ds1 4 (Se2 C (B1 (α:=Lk) (e:=146) (xs:=O) (ys:=([⟨(ei e).u,(ei e).v,(ei e).w,(ei e).lb,(ei e).sg,(ei e).tm⟩]:List Lk)) Ar ty146 C C C mm Bg (by have hol3:=hA.len;first|(simp only [List.length_append,List.length_cons,List.length_nil];omega)|(have hol4:=hA2.len;simp only [List.length_append,List.length_cons,List.length_nil];omega)) dc C (λ_ _=>am)) λad41 cp42=>?_)
        refine Dr 12 C (Ab fld111_1 C) (Ds1 9 (Sc0 C (Ao call163 C C (Set5_ok (ei e) e.tm)) ?_))
        refine Ds1 10 (Se1 C (B0 (α:=Ev) (cs:=[e7 1,e7 (e.tm),e7 ((ei e).u),e7 ((ei e).v),e7 ((ei e).w),e7 ((ei e).lb),e7 ((ei e).sg)]) (xs:=[⟨1,e.tm,(ei e).u,(ei e).v,(ei e).w,(ei e).lb,(ei e).sg⟩]) Az ty108 C C dc dc C kr C C) λad43=>?_)
        refine Ds1 11 (Se2 C (B1 (α:=Ev) (e:=108) (xs:=chg) (ys:=([⟨1,e.tm,(ei e).u,(ei e).v,(ei e).w,(ei e).lb,(ei e).sg⟩]:List Ev)) Az ty108 C C C mm Bg (by have hol3:=hA.len;first|(simp only [List.length_append,List.length_cons,List.length_nil];omega)|(have hol4:=hA2.len;simp only [List.length_append,List.length_cons,List.length_nil];omega)) dc C (λ_ _=>am)) λad44 cp45=>?_)
        refine Ds1 13 (Se0 C (Ed ty109) ?_)
        refine Dr 14 C (Bb C) (Dz (Aj (Aq (S3 10 4 9 C C C) (Ah (Gl2 ty111 ?_)))))
        refine Gm C (Ge0 (Cd ty111) ?_)
        refine Ga C (Ga C (Af (Aw ?_)))
        have hE:O++([⟨(ei e).u,(ei e).v,(ei e).w,(ei e).lb,(ei e).sg,(ei e).tm⟩]:List Lk)=(em xs e):=by first|exact hA.fin om asm|exact hA.finIns om asm
        exact V.retc2 C ty111 C C C mm C (vc 146 (.slice ad41 (em xs e).length cp42) (em xs e)::I) (by rw [←hE];exact A5) ⟨⟨ad41,cp42,ad44,(chg++([⟨1,e.tm,(ei e).u,(ei e).v,(ei e).w,(ei e).lb,(ei e).sg⟩]:List Ev)).length,cp45⟩,⟨by rw [←hE]<;>rfl,by first|(show _<=2*xs.length+1;omega)|(show _<=2*xs.length+1;simp only [List.length_append,List.length_cons,List.length_nil];omega)⟩,rfl⟩
      ·refine Ay (Aj (Ah (Gl2 ty111 ?_)))
       refine Gm C (Ge0 (Cd ty111) ?_)
       refine Ga C (Ga C (Af (Aq (S3 6 5 4 C C C) (Aw ?_))))
       have hE:O=(em xs e):=by first|exact hA.fin om asm|exact hA.finIns om asm
       exact V.retc2 C ty111 C C C mm C (vc 146 (.slice a1 (em xs e).length c1) (em xs e)::I) (by rw [←hE];exact A5) ⟨⟨a1,c1,a2,chg.length,c2⟩,⟨by rw [←hE]<;>rfl,by first|(show _<=2*xs.length+1;omega)|(show _<=2*xs.length+1;simp only [List.length_append,List.length_cons,List.length_nil];omega)⟩,rfl⟩
set_option maxHeartbeats 1000000 in
theorem All5_base{κ:Ctx}{I:List Item}{nd:Int}{a0:Option Addr}{c0:Nat}{xs:List Lk}{va:Value}{es:List Ev}(hl:Sl κ I va es)(hval:checkS nd xs=0)(hfit:∀j:Nat,j<es.length->FitOk nd (e_ es j))(hsz:xs.length+es.length<=1000000):ep Tryz.prog κ 162 [.agg #[e7 nd,.slice a0 xs.length c0],va] (vc 146 (.slice a0 xs.length c0) (xs)::I) (λr J=>∃y:Option Addr×Nat×Int,(r = .tuple #[.agg #[e7 nd,.slice y.1 (List.foldl em xs es).length y.2.1],e7 y.2.2,e7 0])/\J=vc 146 (.slice y.1 (List.foldl em xs es).length y.2.1) (List.foldl em xs es)::I):=by
 refine Ce2 Tryz.func162 C C ?_
 refine Ah (Ge1 (Bc (cs:=[_,_]) C C C) λb1=>Ge1 (A8 ty111 C) λb2=>Ga C (Ga C (Af (Au (Ah (Gl2 ty111 ?_))))))
 refine Gc0 (Ao call129 C C (CheckS5_ok (nd:=nd) Bg)) ?_
 refine Ga C (Af (Ah (Gm C (Gr (Be C C) (Af (A6 C (λc17=>?_) (λc17=>?_)))))))
 ·exact absurd hval c17
 ·refine Ay (Aj (Ah (Ga C (Af (Au (Ah (Gm C (Gr (Bx (α:=Ev) (xs:=es) Az C (Bh hl)) (Gm C (Af (Aq (S6 22 21 20 8 4 2 C C C C C C) (A4 (Bu (σ:=Nat×(Option Addr)×Nat×Int) (λs=>([(2,.pointer (some ⟨b1,0,none⟩)),(4,.pointer (some ⟨b2,0,none⟩)),(8,e7 (s.2.2.2)),(20,va),(21,e7 ((es.length:Nat):Int)),(22,e7 ((s.1:Nat):Int))]:Env)) (λs=>e8 b1 [e7 nd,.slice s.2.1 (List.foldl em xs (List.take s.1 es)).length s.2.2.1] 111::vc 146 (.slice s.2.1 (List.foldl em xs (List.take s.1 es)).length s.2.2.1) (List.foldl em xs (List.take s.1 es))::e8 b2 [e7 0,.slice none 0 0] 111::I) (λs=>(s.1<=es.length)/\(checkS nd (List.foldl em xs (List.take s.1 es))=0)/\(0<=s.2.2.2/\s.2.2.2<=s.1*2000001)) (λs=>es.length - s.1) (0,a0,c0,0) (show ((0:Nat)<=es.length)/\(checkS nd (List.foldl em xs (List.take (0:Nat) es))=0)/\(0<=(0:Int)/\(0:Int)<=(0:Nat)*2000001) from ⟨om,hval,om⟩) (Aa C (Aa C (Aa B9 (Aa C (Aa C (Aa B9 Bj)))))) (show Fit κ _ (e8 b1 [e7 nd,.slice a0 (List.foldl em xs (List.take 0 es)).length c0] 111::vc 146 (.slice a0 (List.foldl em xs (List.take 0 es)).length c0) (List.foldl em xs (List.take 0 es))::e8 b2 [e7 0,.slice none 0 0] 111::I) from B4) ?_)))))))))))))
  rintro ⟨k,a1,c1,n⟩ hp
  dsimp only at hp ⊢
  obtain ⟨hk,hv,hn⟩:=hp
  have hlk:=steps_len (List.take k es) xs
  rw [List.length_take] at hlk
  refine Ah (Gr (A9 C C) (Af (Au (A6 C (λc23=>?_) (λc23=>?_)))))
  ·refine Ay (Aj (Au (A4 (Ah (Gm C (Gr (A3 (α:=Ev) (xs:=es) Az ty108 C C (Bh hl) om om) (Gr (Bp (α:=Ev) (xs:=es) ty108 C (Bh hl) om om) (Ge1 (A8 ty108 C) λb3=>Ga C (Ge0 (E2 ty108) ?_)))))))))
   refine Af (Ah (Gl2 ty111 ?_))
   refine Gl7 ty108 ?_
   refine G.e (Ao call94 C C (Apply5_ok (nd:=nd) (e:=(e_ es k)) Bg hv (hfit k om) (by have hlk:=steps_len (List.take k es) xs;rw [List.length_take] at hlk;omega))) ?_
   rintro _ _ ⟨_,_,⟨⟨ad4,cp5,ad6,nn7,cp8⟩,⟨rfl,hnn7⟩,rfl⟩,rfl,rfl⟩
   show G Tryz.prog κ _ _ _ _ ([(30,.tuple #[.agg #[e7 nd,.slice ad4 (em (List.foldl em xs (List.take k es)) (e_ es k)).length cp5],.slice ad6 nn7 cp8,e7 0]),(29,.agg #[e7 ((e_ es k).kd),e7 ((e_ es k).tm),e7 ((e_ es k).u),e7 ((e_ es k).v),e7 ((e_ es k).w),e7 ((e_ es k).lb),e7 ((e_ es k).sg)]),(28,.agg #[e7 nd,.slice a1 (List.foldl em xs (List.take k es)).length c1]),(9,e7 ((k:Int))),(10,.pointer (some ⟨b3,0,none⟩)),(26,.agg #[e7 ((e_ es k).kd),e7 ((e_ es k).tm),e7 ((e_ es k).u),e7 ((e_ es k).v),e7 ((e_ es k).w),e7 ((e_ es k).lb),e7 ((e_ es k).sg)]),(25,elemPtr va (((k:Int)).toNat*Enc.sz Ev)),(24,e7 ((k:Int))),(23,.bool (decide ((k:Int)<((es.length:Nat):Int)))),(2,.pointer (some ⟨b1,0,none⟩)),(4,.pointer (some ⟨b2,0,none⟩)),(8,e7 n),(20,va),(21,e7 ((es.length:Nat):Int)),(22,e7 ((k:Int)))]:Env) (vc 146 (.slice ad4 (em (List.foldl em xs (List.take k es)) (e_ es k)).length cp5) (em (List.foldl em xs (List.take k es)) (e_ es k))::e8 b3 [e7 ((e_ es k).kd),e7 ((e_ es k).tm),e7 ((e_ es k).u),e7 ((e_ es k).v),e7 ((e_ es k).w),e7 ((e_ es k).lb),e7 ((e_ es k).sg)] 108::e8 b1 [e7 nd,.slice a1 (List.foldl em xs (List.take k es)).length c1] 111::vc 146 (.slice a1 (List.foldl em xs (List.take k es)).length c1) (List.foldl em xs (List.take k es))::e8 b2 [e7 0,.slice none 0 0] 111::I)
   have hnn7:nn7<=2*(List.foldl em xs (List.take k es)).length+1:=hnn7
   refine Gm C (Gr (A2 C C) (Gr (A2 C C) (Gr (A2 C C) (Ge1 (A8 ty111 C) λb9=>Ge0 (Cd ty111) ?_))))
   refine Ga C (Ga C (Af (Aq (S10 13 12 11 9 2 4 8 20 21 22 C C C C C C C C C C) (Au (Ah (Gm C (Gr (Be C C) (Af (A6 C (λc35=>?_) (λc35=>?_))))))))))
   ·exact absurd rfl c35
   ·refine Ay (Aj (Ax (Gl2 ty111 ?_)))
    refine Gm C (Gm C (Gr (Bm Az C) (Gr (Rad C C) (Ge0 (Cd ty111) ?_))))
    exact Ga C (Bd (Ak (Aj (Aq (S6 8 2 4 20 21 22 C C C C C C) (Ax (Gr (Rad C C) (Gm C (Bd (B2 ((k+1),(ad4),(cp5),(n+(nn7:Int))) (by dsimp only;exact ⟨om,(by rw [steps_succ om];exact stepL_val hv (hfit k om)),om⟩) (hI:=by (try dsimp only);exact (by rw [steps_succ om];exact B4)))))))))))
  ·refine Bs (Ap (Ap (A7 (Aj (Ah (Gl2 ty111 ?_))))))
   refine Gm C (Ge0 (Cd ty111) ?_)
   refine Ga C (Ga C (Af (Aw ?_)))
   have hk2:List.take k es=es:=List.take_of_length_le om
   exact V.retc2 C ty111 C C C mm C (vc 146 (.slice a1 (List.foldl em xs es).length c1) (List.foldl em xs es)::I) (by rw [hk2];exact A5) ⟨⟨a1,c1,n⟩,by rw [hk2],rfl⟩
end Go.Sl
