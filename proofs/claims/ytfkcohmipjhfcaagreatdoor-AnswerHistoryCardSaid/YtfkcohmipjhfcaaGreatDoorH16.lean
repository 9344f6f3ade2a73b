/- A part of the proofs of statements of this seat: contracts of functions, and the plain laws that they lean on. No conditions. -/
import Derived.Test.YtfkcohmipjhfcaaGreatDoorH15
import Derived.ScopeJumps
set_option linter.unusedVariables false
set_option linter.unusedSimpArgs false
set_option linter.unusedSectionVars false
namespace Go.Sl
def reachL(rows:List (BitVec 64))(w:BitVec 64):Nat→BitVec 64→BitVec 64→BitVec 64
 |0,_,frm=>frm
 |n+1,front,frm=>if front=0#64 then frm else reachL rows w n ((front &&& (front - 1#64)) ||| (at_ rows (tzB front) &&& w &&& ~~~frm)) (frm ||| (at_ rows (tzB front) &&& w &&& ~~~frm))
def reachB(rows:List (BitVec 64))(f w:BitVec 64):BitVec 64:=reachL rows w 64 (f &&& w) (f &&& w)
structure ReachI (rows:List (BitVec 64)) (f w front frm:BitVec 64):Prop where
 start:∀i:Nat,(f &&& w).getLsbD i=true→frm.getLsbD i=true
 sub:∀i:Nat,frm.getLsbD i=true→w.getLsbD i=true
 fsub:∀i:Nat,front.getLsbD i=true→frm.getLsbD i=true
 closed:∀i j:Nat,frm.getLsbD i=true→front.getLsbD i=false→(at_ rows (i:Int)).getLsbD j=true→w.getLsbD j=true→frm.getLsbD j=true
 least:∀X:Nat→Prop,(∀i:Nat,(f &&& w).getLsbD i=true→X i)→(∀i j:Nat,X i→w.getLsbD i=true→(at_ rows (i:Int)).getLsbD j=true→w.getLsbD j=true→X j)→∀i:Nat,frm.getLsbD i=true→X i
structure ReachP (rows:List (BitVec 64)) (f w M:BitVec 64):Prop where
 start:∀i:Nat,(f &&& w).getLsbD i=true→M.getLsbD i=true
 sub:∀i:Nat,M.getLsbD i=true→w.getLsbD i=true
 closed:∀i j:Nat,M.getLsbD i=true→(at_ rows (i:Int)).getLsbD j=true→w.getLsbD j=true→M.getLsbD j=true
 least:∀X:Nat→Prop,(∀i:Nat,(f &&& w).getLsbD i=true→X i)→(∀i j:Nat,X i→w.getLsbD i=true→(at_ rows (i:Int)).getLsbD j=true→w.getLsbD j=true→X j)→∀i:Nat,M.getLsbD i=true→X i
theorem ReachP.uniq{rows:List (BitVec 64)}{f w M N:BitVec 64}(h:ReachP rows f w M)(k:ReachP rows f w N):M=N:=by
 refine BitVec.eq_of_getLsbD_eq fun i _=>?_
 have e1:=h.least (fun i=>N.getLsbD i=true) k.start (fun i j a _ b c=>k.closed i j a b c) i
 have e2:=k.least (fun i=>M.getLsbD i=true) h.start (fun i j a _ b c=>h.closed i j a b c) i
 cases h1:M.getLsbD i<;>cases h2:N.getLsbD i<;>simp_all
theorem ReachI.begin{rows:List (BitVec 64)}{f w:BitVec 64}:ReachI rows f w (f &&& w) (f &&& w):=
 ⟨fun i h=>h,fun i h=>by rw [BitVec.getLsbD_and,Bool.and_eq_true] at h;exact h.2,fun i h=>h,fun i j h h'=>absurd h (by rw [h'];decide),fun X h _ i hi=>h i hi⟩
theorem ReachI.done{rows:List (BitVec 64)}{f w M:BitVec 64}(h:ReachI rows f w 0#64 M):ReachP rows f w M:=
 ⟨h.start,h.sub,fun i j a b c=>h.closed i j a (by simp) b c,h.least⟩
def reachM(w front frm:BitVec 64):Nat:=(listN (w &&& ~~~(frm &&& ~~~front))).length
theorem listN_lt{a b:BitVec 64}(h:∀i:Nat,a.getLsbD i=true→b.getLsbD i=true){k:Nat}(ha:a.getLsbD k=false)(hb:b.getLsbD k=true):(listN a).length<(listN b).length:=by
 have hn:(k::listN a).Nodup:=List.nodup_cons.2 ⟨fun hm=>by {rw [mem_listN,ha] at hm;exact absurd hm (by decide)},(listN_asc a).imp fun h=>by omega⟩
 exact List.Nodup.length_le_of_subset hn fun i hi=>by
  rcases List.mem_cons.1 hi with rfl|h1
  ·exact mem_listN.2 hb
  ·exact mem_listN.2 (h i (mem_listN.1 h1))
theorem ReachI.step{rows:List (BitVec 64)}{f w front frm:BitVec 64}(h:ReachI rows f w front frm)(hf:front≠0#64) :
  ReachI rows f w ((front &&& (front - 1#64)) ||| (at_ rows (tzB front) &&& w &&& ~~~frm)) (frm ||| (at_ rows (tzB front) &&& w &&& ~~~frm))∧reachM w ((front &&& (front - 1#64)) ||| (at_ rows (tzB front) &&& w &&& ~~~frm)) (frm ||| (at_ rows (tzB front) &&& w &&& ~~~frm))<reachM w front frm:=by
 obtain ⟨k,hk,hkb,hlt,he,hp⟩:=least_bit hf
 have htz:tzB front=(k:Int):=tzB_eq hf hk he
 rw [htz]
 have hf1:∀i:Nat,(frm ||| (at_ rows (k:Int) &&& w &&& ~~~frm)).getLsbD i=true↔(frm.getLsbD i=true∨((at_ rows (k:Int)).getLsbD i=true∧w.getLsbD i=true)):=fun i=>by
  by_cases hi:i<64
  ·simp only [BitVec.getLsbD_or,BitVec.getLsbD_and,BitVec.getLsbD_not,hi,decide_true,Bool.true_and]
   cases frm.getLsbD i<;>simp
  ·simp [BitVec.getLsbD_of_ge _ _ (show 64≤i by omega)]
 have hf2:∀i:Nat,((front &&& (front - 1#64)) ||| (at_ rows (k:Int) &&& w &&& ~~~frm)).getLsbD i=true↔((front.getLsbD i=true∧i≠k)∨((at_ rows (k:Int)).getLsbD i=true∧w.getLsbD i=true∧frm.getLsbD i=false)):=fun i=>by
  by_cases hi:i<64
  ·simp only [BitVec.getLsbD_or,BitVec.getLsbD_and,BitVec.getLsbD_not,hi,decide_true,Bool.true_and]
   have:=hp i
   rw [BitVec.getLsbD_and] at this
   rw [this]
   cases frm.getLsbD i<;>simp
  ·simp [BitVec.getLsbD_of_ge _ _ (show 64≤i by omega)]
 have hkf:=h.fsub k hkb
 have hkw:=h.sub k hkf
 refine ⟨⟨fun i hi=>(hf1 i).2 (.inl (h.start i hi)),fun i hi=>?_,fun i hi=>?_,fun i j hi hj hr hw=>?_,fun X h1 h2 i hi=>?_⟩,?_⟩
 ·rcases (hf1 i).1 hi with h1|h1
  ·exact h.sub i h1
  ·exact h1.2
 ·rcases (hf2 i).1 hi with h1|h1
  ·exact (hf1 i).2 (.inl (h.fsub i h1.1))
  ·exact (hf1 i).2 (.inr ⟨h1.1,h1.2.1⟩)
 ·have hn:¬((front.getLsbD i=true∧i≠k)∨((at_ rows (k:Int)).getLsbD i=true∧w.getLsbD i=true∧frm.getLsbD i=false)):=fun hh=>by rw [(hf2 i).2 hh] at hj;cases hj
  by_cases hik:i=k
  ·subst hik;exact (hf1 j).2 (.inr ⟨hr,hw⟩)
  ·rcases (hf1 i).1 hi with h1|h1
   ·have h3:front.getLsbD i=false:=by
     cases h4:front.getLsbD i
     ·rfl
     ·exact absurd (.inl ⟨h4,hik⟩) hn
    exact (hf1 j).2 (.inl (h.closed i j h1 h3 hr hw))
   ·have h3:frm.getLsbD i=true:=by
     cases h4:frm.getLsbD i
     ·exact absurd (.inr ⟨h1.1,h1.2,h4⟩) hn
     ·rfl
    have h3':front.getLsbD i=false:=by
     cases h4:front.getLsbD i
     ·rfl
     ·exact absurd (.inl ⟨h4,hik⟩) hn
    exact (hf1 j).2 (.inl (h.closed i j h3 h3' hr hw))
 ·rcases (hf1 i).1 hi with h3|h3
  ·exact h.least X h1 h2 i h3
  ·exact h2 k i (h.least X h1 h2 k hkf) hkw h3.1 h3.2
 ·unfold reachM
  have hx:∀(a b:BitVec 64) (i:Nat),(w &&& ~~~(b &&& ~~~a)).getLsbD i=true↔(w.getLsbD i=true∧¬(b.getLsbD i=true∧a.getLsbD i=false)):=fun a b i=>by
   by_cases hi:i<64
   ·simp only [BitVec.getLsbD_and,BitVec.getLsbD_not,hi,decide_true,Bool.true_and]
    cases a.getLsbD i<;>cases b.getLsbD i<;>simp
   ·simp [BitVec.getLsbD_of_ge _ _ (show 64≤i by omega)]
  refine listN_lt (k:=k) (fun i hi=>?_) ?_ ((hx _ _ _).2 ⟨hkw,fun hh=>by rw [hkb] at hh;exact absurd hh.2 (by decide)⟩)
  ·obtain ⟨h1,h2⟩:=(hx _ _ _).1 hi
   refine (hx _ _ _).2 ⟨h1,fun hh=>h2 ⟨(hf1 i).2 (.inl hh.1),?_⟩⟩
   cases h4:((front &&& (front - 1#64)) ||| (at_ rows (k:Int) &&& w &&& ~~~frm)).getLsbD i
   ·rfl
   ·rcases (hf2 i).1 h4 with h5|h5
    ·rw [hh.2] at h5;exact absurd h5.1 (by decide)
    ·rw [hh.1] at h5;exact absurd h5.2.2 (by decide)
  ·rw [←Bool.not_eq_true]
   intro hh
   refine ((hx _ _ _).1 hh).2 ⟨(hf1 k).2 (.inl hkf),?_⟩
   cases h4:((front &&& (front - 1#64)) ||| (at_ rows (k:Int) &&& w &&& ~~~frm)).getLsbD k
   ·rfl
   ·rcases (hf2 k).1 h4 with h5|h5
    ·exact absurd rfl h5.2
    ·rw [hkf] at h5;exact absurd h5.2.2 (by decide)
theorem ReachI.ends{rows:List (BitVec 64)}{f w:BitVec 64}:∀(n:Nat) (front frm:BitVec 64),ReachI rows f w front frm→reachM w front frm≤n→ReachP rows f w (reachL rows w n front frm)
 |0,front,frm,h,hm=>by
  have hz:front=0#64:=Classical.byContradiction fun hf=>by have:=(h.step hf).2;omega
  subst hz;exact h.done
 |n+1,front,frm,h,hm=>by
  unfold reachL
  by_cases hf:front=0#64
  ·rw [if_pos hf];subst hf;exact h.done
  ·rw [if_neg hf];exact ReachI.ends n _ _ (h.step hf).1 (by have:=(h.step hf).2;omega)
theorem reachB_ok(rows:List (BitVec 64))(f w:BitVec 64):ReachP rows f w (reachB rows f w):=ReachI.ends 64 _ _ .begin (listN_len _)
theorem ReachI.eq{rows:List (BitVec 64)}{f w M:BitVec 64}(h:ReachI rows f w 0#64 M):M=reachB rows f w:=h.done.uniq (reachB_ok rows f w)
def oneB(i:Nat):BitVec 64:=1#64 <<< i
theorem getLsb_oneB{i j:Nat}(hi:i<64):(oneB i).getLsbD j=true↔j=i:=by
 unfold oneB
 rw [BitVec.getLsbD_shiftLeft]
 constructor
 ·intro h
  simp only [Bool.and_eq_true,decide_eq_true_eq,Bool.not_eq_true',decide_eq_false_iff_not,BitVec.getLsbD_one] at h
  omega
 ·rintro rfl;simp [hi]
def Conn(rows:List (BitVec 64))(w:BitVec 64)(i j:Nat):Prop:=i<64∧(reachB rows (oneB i) w).getLsbD j=true
instance {rows:List (BitVec 64)} {w:BitVec 64} {i j:Nat}:Decidable (Conn rows w i j):=inferInstanceAs (Decidable (_∧_))
theorem Conn.refl{rows:List (BitVec 64)}{w:BitVec 64}{i:Nat}(h:w.getLsbD i=true):Conn rows w i i:=by
 have hi:i<64:=Classical.byContradiction fun hn=>by rw [BitVec.getLsbD_of_ge _ _ (by omega)] at h;cases h
 exact ⟨hi,(reachB_ok _ _ _).start i (by rw [BitVec.getLsbD_and,h,(getLsb_oneB hi).2 rfl];rfl)⟩
theorem one_and{w:BitVec 64}{i k:Nat}(hi:i<64):(oneB i &&& w).getLsbD k=true↔k=i∧w.getLsbD k=true:=by
 rw [BitVec.getLsbD_and,Bool.and_eq_true,getLsb_oneB hi]
theorem Conn.left{rows:List (BitVec 64)}{w:BitVec 64}{i j:Nat}(h:Conn rows w i j):w.getLsbD i=true:=by
 have h64:=h.1
 refine Classical.byContradiction fun hn=>?_
 have:=(reachB_ok rows (oneB i) w).least (fun _=>False) (fun k hk=>by obtain ⟨rfl,h1⟩:=(one_and h64).1 hk;exact hn h1) (fun _ _ a _ _ _=>a) j h.2
 exact this
end Go.Sl
namespace Go.Sl
end Go.Sl
namespace Go.Sl
end Go.Sl
namespace Go.Sl
open Go.Proofs
set_option maxRecDepth 4000
def rowG(nd:Int)(es:List Pt)(v:Int):BitVec 64:=if v<0∨((rowsB nd es).length:Int)≤v∨checkG nd es≠0 then 0#64 else at_ (rowsB nd es) v
def nbL(es:List Pt)(v:Int):List Int:=es.flatMap fun e=>(if e.u=v then [e.v] else [])++(if e.v=v then [e.u] else [])
theorem nbL_take{es:List Pt}{k:Nat}(h:k<es.length)(v:Int):nbL (es.take (k+1)) v=nbL (es.take k) v++((if (at_ es (k:Int)).u=v then [(at_ es (k:Int)).v] else [])++(if (at_ es (k:Int)).v=v then [(at_ es (k:Int)).u] else [])):=by
 unfold nbL;rw [Cz es k h,List.flatMap_append];simp
theorem mem_nbL{es:List Pt}{v x:Int}:x∈nbL es v↔(⟨v,x⟩:Pt)∈es∨(⟨x,v⟩:Pt)∈es:=by
 unfold nbL
 rw [List.mem_flatMap]
 constructor
 ·rintro ⟨⟨a,b⟩,he,hx⟩
  rcases List.mem_append.1 hx with h|h
  ·split at h
   ·rename_i h1;simp only [List.mem_singleton] at h;simp only at h1;subst h h1;exact .inl he
   ·simp at h
  ·split at h
   ·rename_i h1;simp only [List.mem_singleton] at h;simp only at h1;subst h h1;exact .inr he
   ·simp at h
 ·rintro (h|h)
  ·exact ⟨_,h,by simp⟩
  ·exact ⟨_,h,by simp⟩
def nbG(nd:Int)(es:List Pt)(v:Int):List Int:=if checkG nd es≠0 then [] else ofL (nbL es v)
theorem nb_eq(nd:Int)(es:List Pt)(v:Int):listB (rowG nd es v)=nbG nd es v:=by
 by_cases hc:checkG nd es≠0
 ·unfold rowG nbG;rw [if_pos (.inr (.inr hc)),if_pos hc,C2]
 ·have hG:=checkG_ok.1 (Classical.not_not.1 hc)
  have hr:=hG.rng
  have hl:=hG.rows.len
  unfold nbG
  rw [if_neg hc]
  refine intLin.uniq (listB_asc _) (ofL_asc _) fun x=>?_
  rw [mem_listB,mem_ofL,mem_nbL]
  by_cases hv:v<0∨((rowsB nd es).length:Int)≤v
  ·have hz:rowG nd es v=0#64:=if_pos om
   rw [hz]
   simp only [BitVec.getLsbD_zero,Bool.false_eq_true,and_false,false_iff]
   rintro (h|h)
   ·have:=hG.edge _ h;simp only at this;omega
   ·have:=hG.edge _ h;simp only at this;omega
  ·have hz:rowG nd es v=at_ (rowsB nd es) v:=if_neg om
   rw [hz]
   by_cases hx:0≤x∧x<64
   ·rw [hG.rows.bit v x om om hx.1 hx.2,decide_eq_true_eq]
    exact ⟨fun h=>h.2,fun h=>⟨hx.1,h⟩⟩
   ·constructor
    ·rintro ⟨h1,h2⟩
     rw [BitVec.getLsbD_of_ge _ _ om] at h2
     exact absurd h2 dc
    ·rintro (h|h)
     ·have:=hG.edge _ h;simp only at this;omega
     ·have:=hG.edge _ h;simp only at this;omega
theorem nbG_len(nd:Int)(es:List Pt)(v:Int):(nbG nd es v).length≤64:=by rw [←nb_eq];exact Ey _
theorem all_tab:∀n:Fin 65,∀i:Fin 64,(allB (n.val:Int)).getLsbD i.val=decide (i.val<n.val):=by decide+kernel
theorem getLsb_allB{n:Int}(h0:0≤n)(h1:n≤64){i:Nat}(hi:i<64):(allB n).getLsbD i=decide ((i:Int)<n):=by
 have:=all_tab ⟨n.toNat,by omega⟩ ⟨i,hi⟩
 simp only [show ((n.toNat:Nat):Int)=n by omega] at this
 rw [this,decide_eq_decide];omega
variable {κ:Ctx}{I:List Item}
theorem all_rows{nd:Int}{es:List Pt}(h:0≤nd∧nd≤64)(i:Nat)(hi:(allB nd).getLsbD i=true):i<(rowsB nd es).length:=by
 have h64:i<64:=Classical.byContradiction fun hn=>by rw [BitVec.getLsbD_of_ge _ _ om] at hi;cases hi
 rw [getLsb_allB h.1 h.2 h64,decide_eq_true_eq] at hi
 rw [rowsB_len];omega
theorem and_all_rows{nd:Int}{es:List Pt}(m:BitVec 64)(h:0≤nd∧nd≤64)(i:Nat)(hi:(m &&& allB nd).getLsbD i=true):i<(rowsB nd es).length:=by
 rw [BitVec.getLsbD_and,Bool.and_eq_true] at hi;exact all_rows h i hi.2
theorem MReach_ok{va:Value}{rows:List (BitVec 64)}(hl:Sl κ I va rows)(f w:BitVec 64)(hw:∀i:Nat,w.getLsbD i=true→i<rows.length)(hT:TabRd κ I 0 tzCells) :
    CallS Tryz.prog κ 197 [va,U64 (f),U64 (w)] I (fun r J=>r=U64 (reachB rows f w)∧I=J):=by
 refine Ce3 Tryz.func197 rfl rfl ?_
 refine Ai (Ga rfl (Af (Ai (Gm rfl (Gm rfl (Gr (C5 (a:=f) (b:=w) rfl rfl) (Ga rfl (Af (Au (Ai (Gm rfl (Ga rfl (Af (A4 (Bv (σ:=(BitVec 64)×(BitVec 64)) (fun s=>([(0,va),(1,U64 (s.2)),(2,U64 (w)),(7,U64 (s.1))]:Env)) (fun s=>I) (fun s=>(ReachI rows f w s.1 s.2)) (fun s=>reachM w s.1 s.2) (f &&& w,f &&& w) (show (ReachI rows f w (f &&& w:BitVec 64) (f &&& w:BitVec 64)) from .begin) (Aa rfl (Aa (Cp rfl (by first|rfl|simp)) (Aa rfl (Aa (Cp rfl (by first|rfl|simp)) Bg)))) (show Fit κ _ (I) from A5) ?_)))))))))))))))
 rintro ⟨front,frm⟩ hp
 dsimp only at hp ⊢
 have hR:=hp
 refine Au (Ai (Gm rfl (Gr (Runs.neB (a:=front) (b:=0#64) rfl rfl) (Af (A7 rfl (fun c15=>?_) (fun c15=>?_))))))
 ·refine Aw (Aj (A4 (Ai (Gm rfl (Gc0 (Ap call238 rfl rfl (Least_ok front (B9 hT A0))) ?_)))))
  refine Ga rfl ?_
  have htz:=tzB_range c15
  have hbd:=hw _ (hR.sub _ (hR.fsub _ htz.2.2))
  exact Af (Ai (Gm rfl (Gm rfl (Gr (Runs.subB (a:=front) (b:=1#64) rfl rfl) (Gr (C5 (a:=front) (b:=front - (1#64)) rfl rfl) (Ga rfl (Af (Ar (S5 7 8 0 1 2 rfl rfl rfl rfl rfl) (Ai (Gm rfl (Gm rfl (Gr (A3 (α:=(BitVec 64)) (xs:=rows) Cd ty175 rfl rfl (Bj hl) om om) (Gr (Dy (α:=(BitVec 64)) (xs:=rows) (u:=U64 ((at_ rows (tzB front)))) ty175 rfl (Bj hl) om om rfl) (Gm rfl (Gr (C5 (a:=(at_ rows (tzB front))) (b:=w) rfl rfl) (Gm rfl (Gr (Eh (a:=(at_ rows (tzB front)) &&& w) (b:=frm) rfl rfl) (Ga rfl (Af (Ar (S5 9 7 0 1 2 rfl rfl rfl rfl rfl) (Ai (Gm rfl (Gm rfl (Gr (E3 (a:=frm) (b:=((at_ rows (tzB front)) &&& w) &&& ~~~frm) rfl rfl) (Ga rfl (Af (Az (Gm rfl (Gm rfl (Gr (E3 (a:=front &&& (front - (1#64))) (b:=((at_ rows (tzB front)) &&& w) &&& ~~~frm) rfl rfl) (Ga rfl (Bc (Ak (B3 (((front &&& (front - (1#64))) ||| (((at_ rows (tzB front)) &&& w) &&& ~~~frm)),(frm ||| (((at_ rows (tzB front)) &&& w) &&& ~~~frm))) (by dsimp only;exact (hR.step c15).1) (hlt:=by (try dsimp only);exact (hR.step c15).2)))))))))))))))))))))))))))))))))))
 ·refine Bs (Am (Am (A6 (Aj (Ai (Gm rfl (Ga rfl (Af (Ax ?_)))))))))
  have hz:front=0#64:=Classical.not_not.1 c15
  subst hz
  exact Ay rfl rfl (I) A0 ⟨by rw [hR.eq],rfl⟩
def rchG(nd:Int)(es:List Pt)(frm set:List Int):List Int:=if checkG nd es≠0 then [] else listB (reachB (rowsB nd es) (maskB frm) (maskB set &&& allB nd))
theorem CReach_ok{nd:Int}{va vb vd:Value}{es:List Pt}{frm set:List Int}(hl:Sl κ I va es)(hf:Sl κ I vb frm)(hs:Sl κ I vd set)(hT:TabRd κ I 0 tzCells) :
    CallS Tryz.prog κ 110 [.agg #[I64 (nd),va],vb,vd] I (fun r J=>∃a c,r = .tuple #[.slice a (rchG nd es frm set).length c,I64 (checkG nd es)]∧J=vc 3 (.slice a (rchG nd es frm set).length c) (rchG nd es frm set)::I):=by
 refine Ce3 Tryz.func110 rfl rfl ?_
 refine Ai (Ge1 (Bd (cs:=[_,_]) rfl rfl rfl) fun b1=>Ga rfl (Ga rfl (Af (Au (Ai (Gl2 ty48 ?_))))))
 refine Gc0 (Ap call83 rfl rfl (CheckGen_ok (Bj hl))) ?_
 refine Ga rfl (Af (Ai (Gm rfl (Gr (Be rfl rfl) (Af (A7 rfl (fun c12=>?_) (fun c12=>?_)))))))
 ·refine Ai (Gm rfl (Ga rfl (Ga rfl (Af (Ar (S2 7 6 rfl rfl) (Ax (Ah ?_)))))))
  have hX:(rchG nd es frm set)=[]:=if_pos c12
  exact Cl rfl rfl rfl (vc 3 (.slice none (rchG nd es frm set).length 0) (rchG nd es frm set)::I) (by rw [hX];exact Cg (show Fit κ _ I from A0) (Bw (α:=Int) _ _)) ⟨none,0,by rw [hX];rfl,rfl⟩
 ·refine Aw (Aj (Au (Bk mixed (Bo (blk b1 [I64 (nd),va] 48::I) 14 (Dr 0 rfl (Bq (vs:=[_,_]) ty48) ?_)))))
  refine Dr 2 rfl (Ad rfl) (Dr 4 rfl (Ad rfl) (Dr 6 rfl (Ab fld48_0 rfl) (Dr 7 rfl (As ty3) ?_)))
  refine Ds1 1 (Se rfl (Ap call198 rfl rfl (MRows_ok (nd:=nd) (Bj hl))) ?_)
  rintro _ _ ⟨_,_,⟨ad2,cp3,rfl,rfl⟩,rfl,rfl⟩
  refine ⟨A5,?_⟩
  have hrwad2:=rowsB_len nd es
  refine Ds1 3 (Sc0 rfl (Ap call199 rfl rfl (MaskOf_ok (Bj hf))) ?_)
  refine Ds1 5 (Sc0 rfl (Ap call199 rfl rfl (MaskOf_ok (Bj hs))) ?_)
  refine Ds1 8 (Sc0 rfl (Ap call200 rfl rfl (MaskAll_ok nd)) ?_)
  refine Dr 9 rfl (C5 (a:=maskB set) (b:=allB nd) rfl rfl) (Ds1 10 (Se rfl (Ap call197 rfl rfl (MReach_ok Bf (maskB frm) ((maskB set) &&& (allB nd)) (and_all_rows _ (checkG_ok.1 (Classical.not_not.1 c12)).rng) (B9 hT A0))) ?_))
  rintro _ _ ⟨_,_,⟨rfl,rfl⟩,rfl,rfl⟩
  refine ⟨A5,?_⟩
  refine Ds1 11 (Sc2 rfl (Ap call171 rfl rfl (MList_ok (reachB (rowsB nd es) (maskB frm) ((maskB set) &&& (allB nd))) (B9 hT A0))) fun ad4 cp5=>?_)
  refine Dr 12 rfl (Ba rfl) (Dr 13 rfl (Ba rfl) (Dz (Aj (Ar (S2 7 6 rfl rfl) (Ax ?_)))))
  have hX:(rchG nd es frm set)=_:=if_neg c12
  have hz:checkG nd es=0:=Classical.not_not.1 c12
  exact Cl rfl rfl rfl (vc 3 (.slice ad4 (rchG nd es frm set).length cp5) (rchG nd es frm set)::I) (by rw [hX];exact A5) ⟨ad4,cp5,by rw [hX,hz],rfl⟩
end Go.Sl
namespace Go.Sl
section
variable {P:Program}{κ:Ctx}{N:Frm}{Q:Exit→Act→World→Prop}{L:Env}{I:List Item}
theorem wp_scope_ghost{c rest:Code}{a:Act}{w:World}(l:Nat){σ:Type}(R:σ→Act→World→Prop)(μ:σ→Nat)(hf:findLabel c l=some rest)
  (first:c.wp P (Exit.jump l (fun a w=>∃s,R s a w) Q) a w)
  (pass:∀s a w,R s a w→rest.wp P (Exit.jump l (fun a' w'=>∃s',R s' a' w'∧μ s'<μ s) Q) a w):(Code.scope c).wp P Q a w:=by
 intro b k cs
 have hg:gotoIn l (.inScope c::k)=some (.code rest :: .inScope c::k):=by simp [gotoIn,hf]
 have key:∀n s a w,μ s=n→R s a w→∃e a' w',Q e a' w'∧Arrives P (lone (b.at a (.code rest :: .inScope c::k)) cs w) b k cs e a' w':=by
  intro n
  induction n using Nat.strongRecOn with
  |_ n ih=>
   intro s a w hn hR
   obtain ⟨e,a₁,w₁,hq,harr⟩:=pass s a w hR b (.inScope c::k) cs
   cases e with
   |normal=>exact ⟨.normal,a₁,w₁,hq,Steps.trans harr (.one step_inScope)⟩
   |exit id=>exact ⟨.exit id,a₁,w₁,hq,fun k' hk=>harr k' (by simp [exitTo,hk])⟩
   |goto l'=>
    obtain ⟨rfl,s',hR',hlt⟩:=hq
    obtain ⟨e₂,a₂,w₂,hq₂,harr₂⟩:=ih _ (by omega) s' a₁ w₁ rfl hR'
    exact ⟨e₂,a₂,w₂,hq₂,.of_steps (harr _ hg) harr₂⟩
   |ret=>exact ⟨_,a₁,w₁,hq,harr⟩
   |panic ch=>exact ⟨_,a₁,w₁,hq,harr⟩
   |outgrown=>exact ⟨_,a₁,w₁,hq,harr⟩
 obtain ⟨e,a₁,w₁,hq,harr⟩:=first b (.inScope c::k) cs
 cases e with
 |normal=>exact ⟨.normal,a₁,w₁,hq,.head step_scope (Steps.trans harr (.one step_inScope))⟩
 |exit id=>exact ⟨.exit id,a₁,w₁,hq,fun k' hk=> .head step_scope (harr k' (by simp [exitTo,hk]))⟩
 |goto l'=>
  obtain ⟨rfl,s,hR⟩:=hq
  obtain ⟨e₂,a₂,w₂,hq₂,harr₂⟩:=key _ s a₁ w₁ rfl hR
  exact ⟨e₂,a₂,w₂,hq₂,.of_steps (.head step_scope (harr _ hg)) harr₂⟩
 |ret=>exact ⟨_,a₁,w₁,hq,.of_steps (.one step_scope) harr⟩
 |panic ch=>exact ⟨_,a₁,w₁,hq,.of_steps (.one step_scope) harr⟩
 |outgrown=>exact ⟨_,a₁,w₁,hq,.of_steps (.one step_scope) harr⟩
theorem V.jump_ret{l:Nat}{K:Act→World→Prop}(h:V κ N Q .ret L I):V κ N (Exit.jump l K Q) .ret L I:=h
end
end Go.Sl
namespace Go.Sl
section
variable {P:Program}{κ:Ctx}{N:Frm}{Q:Exit→Act→World→Prop}{L:Env}{I:List Item}
theorem W.scope0{c rest:Code}{l:Nat}(hf:findLabel c l=some rest)(h:W P κ N c (Exit.jump l (fun _ _=>∃s:Unit,False) Q) L I):W P κ N (.scope c) Q L I:=fun a w ha hs=>
 wp_scope_ghost l (fun (_:Unit) _ _=>False) (fun _=>0) hf (h a w ha hs) fun _ _ _ hR=>hR.elim
theorem W.label{l:Nat}(h:V κ N Q .normal L I):W P κ N (.label l) Q L I:=fun a w ha hs=>wp_label (h a w ha hs)
end
end Go.Sl
namespace Go.Sl
open Go.Proofs
set_option maxRecDepth 4000
def coreR0(nd:Int)(es:List Pt):List (Int×Nat):=coreR (rowsB nd es) (allB ((rowsB nd es).length:Int)) 0
def coreL(nd:Int)(es:List Pt):List Int:=numL (rowsB nd es).length (coreR0 nd es)
def coreO(nd:Int)(es:List Pt):List Int:=ordL (coreR0 nd es)
def coreN(nd:Int)(es:List Pt):List Int:=if checkG nd es≠0 then [] else coreL nd es
def coreK(nd:Int)(es:List Pt)(k:Int):List Int:=sideL (coreN nd es).length fun v=>decide (k≤at_ (coreN nd es) v)
theorem mem_allN{n:Nat}(h:n≤64){u:Int}:u∈listB (allB (n:Int))↔0≤u∧u<n:=by
 constructor
 ·intro hu
  have hr:=listB_lt hu
  rw [mem_listB,getLsb_allB om om om,decide_eq_true_eq] at hu
  omega
 ·intro hu
  rw [mem_listB,getLsb_allB om om om,decide_eq_true_eq]
  omega
theorem coreL_len(nd:Int)(es:List Pt):(coreL nd es).length=(rowsB nd es).length:=numL_len _ _
theorem ordL_len(l:List (Int×Nat)):(ordL l).length=l.length:=List.length_map ..
theorem bit_sh{v:Int}(h0:0≤v)(h1:v<64):bitB v=1#64 <<< v.toNat:=by unfold bitB;rw [if_neg om]
theorem deg_full{n:Nat}{rows:List (BitVec 64)}(h:SymB n rows){k:Int}(h0:0≤k)(h1:k<n):onesB (at_ rows k)=((degB rows (allB (n:Int)) k:Nat):Int):=by
 rw [ones_pop]
 unfold degB
 congr 1
 refine ((List.perm_ext_iff_of_nodup (Ep _) (Ep _)).2 fun u=>?_).length_eq
 rw [mem_andB]
 refine ⟨fun hu=>⟨hu,(mem_allN h.le).2 ⟨(listB_lt hu).1,h.lt k u h0 h1 hu⟩⟩,fun hu=>hu.1⟩
theorem degB_all{n:Nat}{rows:List (BitVec 64)}(h:SymB n rows)(hn:1≤n)(left:BitVec 64)(v:Int):degB rows left v≤n - 1:=by
 by_cases hv:v.toNat<n
 ·have e:at_ rows v=at_ rows (v.toNat:Int):=by show rows.getD v.toNat _=rows.getD ((v.toNat:Nat):Int).toNat _;rw [Int.toNat_natCast]
  have:=degB_lt h left (v:=(v.toNat:Int)) om om
  unfold degB at this ⊢
  rw [e];omega
 ·have e:at_ rows v=0#64:=by
   unfold at_
   rw [List.getD_eq_getElem?_getD,List.getElem?_eq_none (by rw [h.len];omega)];rfl
  unfold degB
  rw [e,BitVec.zero_and,C2];simp
theorem rows_sym{nd:Int}{es:List Pt}(hG:GrOk nd es):SymB (rowsB nd es).length (rowsB nd es):=by
 have h:=hG.rows.symB hG
 have e:=h.len
 rw [←e] at h;exact h
theorem core_step{rows:List (BitVec 64)}{left:BitVec 64}{kk dd:Nat}{v:Int}{done:List (Int×Nat)}{all:List (Int×Nat)}(hc:done++coreR rows left kk=all)(hT:Takes rows left v)(hd:degB rows left v=dd) :
  (done++[(v,max kk dd)])++coreR rows (left &&& ~~~(1#64 <<< v.toNat)) (max kk dd)=all:=by
 rw [←hc,coreR_step hT,hd,List.append_assoc];rfl
theorem cnt_allN{n:Nat}(h:n≤64):(listB (allB (n:Int))).length=n:=by
 have hp:(listB (allB (n:Int))).Perm ((List.range n).map fun (i:Nat)=>(i:Int)):=(List.perm_ext_iff_of_nodup (Ep _) (by
  exact List.Pairwise.map _ (fun a b h=>by omega) (List.nodup_range (n:=n)))).2 fun u=>by
  rw [mem_allN h,List.mem_map]
  constructor
  ·intro hu;exact ⟨u.toNat,List.mem_range.2 om,by omega⟩
  ·rintro ⟨i,hi,rfl⟩;have:=List.mem_range.1 hi;omega
 have:=hp.length_eq
 rwa [List.length_map,List.length_range] at this
set_option maxHeartbeats 2000000 in
theorem CPeel_ok{κ:Ctx}{I:List Item}{nd:Int}{va:Value}{es:List Pt}(hl:Sl κ I va es)(hG:GrOk nd es)(hT:TabRd κ I 0 tzCells) :
    CallS Tryz.prog κ 175 [.agg #[I64 (nd),va]] I (fun r J=>∃a c a' c',r = .tuple #[.slice a (coreO nd es).length c,.slice a' (coreL nd es).length c']∧J=vc 3 (.slice a (coreO nd es).length c) (coreO nd es)::vc 3 (.slice a' (coreL nd es).length c') (coreL nd es)::I):=by
 have hS:=rows_sym hG
 have hS64:=hS.le
 refine Ce1 Tryz.func175 rfl rfl ?_
 refine Ai (Ge1 (Bd (cs:=[_,_]) rfl rfl rfl) fun b1=>Ga rfl (Ga rfl (Af (W.scope0 (l:=0) rfl ?_))))
 refine Ai (Gl2 ty48 ?_)
 refine G.e (Ap call198 rfl rfl (MRows_ok (nd:=nd) (Bj hl))) ?_
 rintro _ _ ⟨_,_,⟨ad2,cp3,rfl,rfl⟩,rfl,rfl⟩
 have hrwad2:=rowsB_len nd es
 refine Ga rfl (Af (Ai (Ge1 (A8 ty264 rfl) fun b4=>?_)))
 show G Tryz.prog κ _ _ _ _ ([(5,.pointer (some ⟨b4,0,none⟩)),(4,.slice ad2 (rowsB nd es).length cp3),(16,.slice ad2 (rowsB nd es).length cp3),(15,.agg #[I64 (nd),va]),(3,.slice none 0 0),(2,.slice none 0 0),(1,.pointer (some ⟨b1,0,none⟩)),(0,.agg #[I64 (nd),va])]:Env) (blk b4 (cells (List.replicate 64 (0#64):List (BitVec 64))) 264::vc 175 (.slice ad2 (rowsB nd es).length cp3) (rowsB nd es)::blk b1 [I64 (nd),va] 48::I)
 refine Af (Ai (Gm rfl (Gr (Bp Cd rfl) (Ge2 (Cr (α:=Int) (n:=(rowsB nd es).length) Ac ty3 rfl rfl rfl om om dc rfl) fun ad5 cp6=>?_))))
 refine Ga rfl (Af (Au (Ai (Gm rfl (Gr (Bp Cd rfl) (Gm rfl (Af (Ar (S7 22 21 20 6 5 4 2 rfl rfl rfl rfl rfl rfl rfl) (A4 (Bv (σ:=Nat×(List Int)×(List (BitVec 64))) (fun s=>([(2,.slice none 0 0),(4,.slice ad2 (rowsB nd es).length cp3),(5,.pointer (some ⟨b4,0,none⟩)),(6,.slice ad5 (List.replicate ((rowsB nd es).length) (default:Int)).length cp6),(20,.slice ad2 (rowsB nd es).length cp3),(21,I64 ((((rowsB nd es).length:Nat):Int))),(22,I64 (((s.1:Nat):Int)))]:Env)) (fun s=>vc 3 (.slice ad5 (List.replicate ((rowsB nd es).length) (default:Int)).length cp6) (s.2.1)::blk b4 (cells (s.2.2:List (BitVec 64))) 264::vc 175 (.slice ad2 (rowsB nd es).length cp3) (rowsB nd es)::blk b1 [I64 (nd),va] 48::I) (fun s=>(s.1≤(rowsB nd es).length)∧(BkOk (rowsB nd es).length (fun u=>0≤u∧u<((s.1:Nat):Int)) (degB (rowsB nd es) (allB ((rowsB nd es).length:Int))) s.2.1 s.2.2)) (fun s=>(rowsB nd es).length - s.1) (0,List.replicate ((rowsB nd es).length) (default:Int),List.replicate 64 (0#64)) (show ((0:Nat)≤(rowsB nd es).length)∧(BkOk (rowsB nd es).length (fun u=>0≤u∧u<(((0:Nat):Nat):Int)) (degB (rowsB nd es) (allB ((rowsB nd es).length:Int))) (List.replicate ((rowsB nd es).length) (default:Int):List Int) (List.replicate 64 (0#64):List (BitVec 64))) from ⟨om,(BkOk.start _ _)⟩) (Aa rfl (Aa rfl (Aa rfl (Aa rfl (Aa rfl (Aa rfl (Aa B8 Bg))))))) (show Fit κ _ (vc 3 (.slice ad5 (List.replicate ((rowsB nd es).length) (default:Int)).length cp6) ((List.replicate ((rowsB nd es).length) (default:Int)))::blk b4 (cells ((List.replicate 64 (0#64)):List (BitVec 64))) 264::vc 175 (.slice ad2 (rowsB nd es).length cp3) (rowsB nd es)::blk b1 [I64 (nd),va] 48::I) from A5) ?_))))))))))
 rintro ⟨k,dgs,bks⟩ hp
 dsimp only at hp ⊢
 obtain ⟨hk,hB⟩:=hp
 have hdl:=hB.dlen
 have hbl:=hB.blen
 have hon:k<(rowsB nd es).length→onesB (at_ (rowsB nd es) (k:Int))=((degB (rowsB nd es) (allB ((rowsB nd es).length:Int)) (k:Int):Nat):Int):=fun h=>deg_full hS om om
 have hd64:k<(rowsB nd es).length→((degB (rowsB nd es) (allB ((rowsB nd es).length:Int)) (k:Int):Nat):Int)<64:=fun h=>by have:=degB_lt hS (allB ((rowsB nd es).length:Int)) (v:=(k:Int)) om om;omega
 refine Ai (Gr (A9 rfl rfl) (Af (Au (A7 rfl (fun c23=>?_) (fun c23=>?_)))))
 ·refine Aw (Aj (Au (A4 (Ai (Gm rfl (Gr (A3 (α:=(BitVec 64)) (xs:=rowsB nd es) Cd ty175 rfl rfl Bf om oo) (Gr (Dy (α:=(BitVec 64)) (xs:=rowsB nd es) (u:=U64 ((at_ (rowsB nd es) (k:Int)))) ty175 rfl Bf om oo rfl) (Ga rfl (Ga rfl (Af (Ai (Gm rfl (Gm rfl (Gm rfl (Gc0 (Ap call219 rfl rfl (MCount_ok (at_ (rowsB nd es) (k:Int)))) ?_)))))))))))))))
  refine Gr (A3 (α:=Int) (xs:=dgs) Ac ty3 rfl rfl Bf om oo) (Ge0 (C6 (α:=Int) (xs:=dgs) (e:=3) (new:=onesB (at_ (rowsB nd es) (k:Int))) ty3 rfl rfl rfl om oo am) ?_)
  have hon1:=hon om
  have hd641:=hd64 om
  have hset:at_ (List.set dgs ((k:Int)).toNat (onesB (at_ (rowsB nd es) (k:Int)))) (k:Int)=((degB (rowsB nd es) (allB ((rowsB nd es).length:Int)) (k:Int):Nat):Int):=by rw [Dl _ _ _ _ om om om,if_pos rfl,hon1]
  refine Af (Ar (S8 7 2 4 5 6 20 21 22 rfl rfl rfl rfl rfl rfl rfl rfl) (Bk mixed (Bo (vc 3 (.slice ad5 (List.replicate ((rowsB nd es).length) (default:Int)).length cp6) (List.set dgs ((k:Int)).toNat (onesB (at_ (rowsB nd es) (k:Int))))::blk b4 (cells (bks:List (BitVec 64))) 264::vc 175 (.slice ad2 (rowsB nd es).length cp3) (rowsB nd es)::blk b1 [I64 (nd),va] 48::I) 10 (Dr 0 rfl (Ad rfl) (Dr 1 rfl (Ad rfl) (Dr 2 rfl (A3 (α:=Int) (xs:=List.set dgs ((k:Int)).toNat (onesB (at_ (rowsB nd es) (k:Int)))) Ac ty3 rfl rfl Bf om oo) (Dr 3 rfl (Br (xs:=List.set dgs ((k:Int)).toNat (onesB (at_ (rowsB nd es) (k:Int)))) ty3 rfl Bf om oo) (Dr 4 rfl (Cn Ct ty175 rfl rfl om oo) (Dr 5 rfl (E6 (xs:=bks) ty175 rfl (Ci mm) om oo) (Dr 6 rfl (Ad rfl) (Ds1 7 (Se rfl (Ap call237 rfl rfl (Bit_ok (k:Int))) ?_))))))))))))
  rintro _ _ ⟨_,_,⟨rfl,rfl⟩,rfl,rfl⟩
  refine ⟨A0,?_⟩
  refine Dr 8 rfl (E3 (a:=at_ bks (at_ (List.set dgs ((k:Int)).toNat (onesB (at_ (rowsB nd es) (k:Int)))) (k:Int))) (b:=bitB (k:Int)) rfl rfl) (Dr 9 rfl (Cn Ct ty175 rfl rfl om oo) (Dc kr ?_))
  refine Ae 10 rfl (Eff.setAU (xs:=bks) (i:=at_ (List.set dgs ((k:Int)).toNat (onesB (at_ (rowsB nd es) (k:Int)))) (k:Int)) (n:=(at_ bks (at_ (List.set dgs ((k:Int)).toNat (onesB (at_ (rowsB nd es) (k:Int)))) (k:Int))) ||| (bitB (k:Int))) ty175 rfl rfl rfl om oo am) ?_
  rintro _ _ ⟨rfl,rfl⟩
  refine De kr ?_
  exact Ak (Aj (Ar (S7 2 4 5 6 20 21 22 rfl rfl rfl rfl rfl rfl rfl) (Az (Gr (Rad rfl rfl) (Gm rfl (Bc (B3 ((k+1),(List.set dgs ((k:Int)).toNat (onesB (at_ (rowsB nd es) (k:Int)))),(List.set bks (at_ (List.set dgs ((k:Int)).toNat (onesB (at_ (rowsB nd es) (k:Int)))) (k:Int)).toNat ((at_ bks (at_ (List.set dgs ((k:Int)).toNat (onesB (at_ (rowsB nd es) (k:Int)))) (k:Int))) ||| (bitB (k:Int))))) (by dsimp only;exact ⟨om,(by have hN:=hB.push (S':=fun u=>0≤u∧u<((k+1:Nat):Int)) (v:=(k:Int)) (c:=((degB (rowsB nd es) (allB ((rowsB nd es).length:Int)) (k:Int):Nat):Int)) om om om (fun u=>by constructor<;>intro h<;>omega) (fun h=>by omega) rfl (hd64 om);rw [hset,hon om,bit_sh om om];exact hN)⟩))))))))
 ·refine Bs (Am (Am (A6 (Aj (Ai (Gm rfl (Gr (Bp Cd rfl) (Ge2 (Cr (α:=Int) (n:=(rowsB nd es).length) Ac ty3 rfl rfl rfl om om dc rfl) fun ad7 cp8=>?_))))))))
  refine Ga rfl (Af (Ai (Gm rfl (Gr (Bp Cd rfl) (Gc0 (Ap call200 rfl rfl (MaskAll_ok (((rowsB nd es).length:Nat):Int))) ?_)))))
  refine Ga rfl (Af (Ar (S6 9 3 2 4 5 6 rfl rfl rfl rfl rfl rfl) (Ai (Ga rfl (Af (Au (W.label ?_)))))))
  refine Aj (Au (A4 (Bv (σ:=(List (Int×Nat))×(BitVec 64)×Nat×(List Int)×(List (BitVec 64))×(Option Addr)×Nat) (fun s=>([(2,.slice s.2.2.2.2.2.1 (ordL s.1).length s.2.2.2.2.2.2),(3,.slice ad7 (List.replicate ((rowsB nd es).length) (default:Int)).length cp8),(4,.slice ad2 (rowsB nd es).length cp3),(5,.pointer (some ⟨b4,0,none⟩)),(6,.slice ad5 (List.replicate ((rowsB nd es).length) (default:Int)).length cp6),(9,U64 (s.2.1)),(10,I64 (((s.2.2.1:Nat):Int)))]:Env)) (fun s=>vc 3 (.slice s.2.2.2.2.2.1 (ordL s.1).length s.2.2.2.2.2.2) (ordL s.1)::vc 3 (.slice ad7 (List.replicate ((rowsB nd es).length) (default:Int)).length cp8) (numL (rowsB nd es).length s.1)::vc 3 (.slice ad5 (List.replicate ((rowsB nd es).length) (default:Int)).length cp6) (s.2.2.2.1)::blk b4 (cells (s.2.2.2.2.1:List (BitVec 64))) 264::vc 175 (.slice ad2 (rowsB nd es).length cp3) (rowsB nd es)::blk b1 [I64 (nd),va] 48::I) (fun s=>(s.1++coreR (rowsB nd es) s.2.1 s.2.2.1=coreR0 nd es)∧(BkOk (rowsB nd es).length (fun u=>u∈listB s.2.1) (degB (rowsB nd es) s.2.1) s.2.2.2.1 s.2.2.2.2.1)∧(s.1.length+(listB s.2.1).length=(rowsB nd es).length)∧(s.2.2.1≤63)) (fun s=>(listB s.2.1).length) ([],(allB ((rowsB nd es).length:Int)),0,dgs,bks,none,0) (show (([]:List (Int×Nat))++coreR (rowsB nd es) ((allB ((rowsB nd es).length:Int)):BitVec 64) (0:Nat)=coreR0 nd es)∧(BkOk (rowsB nd es).length (fun u=>u∈listB ((allB ((rowsB nd es).length:Int)):BitVec 64)) (degB (rowsB nd es) ((allB ((rowsB nd es).length:Int)):BitVec 64)) (dgs:List Int) (bks:List (BitVec 64)))∧(([]:List (Int×Nat)).length+(listB ((allB ((rowsB nd es).length:Int)):BitVec 64)).length=(rowsB nd es).length)∧((0:Nat)≤63) from ⟨rfl,(hB.congr (fun u=>(mem_allN hS.le).trans (by constructor<;>intro h<;>omega)) (fun u _=>rfl)),(by have:(listB (allB ((rowsB nd es).length:Int))).length=(rowsB nd es).length:=cnt_allN hS.le;simp only [List.length_nil];omega),om⟩) (Aa (Cp rfl (by first|rfl|(rw [ordL_snoc])|simp)) (Aa rfl (Aa rfl (Aa rfl (Aa rfl (Aa (Cp rfl (by first|rfl|(rw [ordL_snoc])|simp)) (Aa B8 Bg))))))) (show Fit κ _ (vc 3 (.slice (none) (ordL ([])).length (0)) (ordL ([]))::vc 3 (.slice ad7 (List.replicate ((rowsB nd es).length) (default:Int)).length cp8) (numL (rowsB nd es).length ([]))::vc 3 (.slice ad5 (List.replicate ((rowsB nd es).length) (default:Int)).length cp6) ((dgs))::blk b4 (cells ((bks):List (BitVec 64))) 264::vc 175 (.slice ad2 (rowsB nd es).length cp3) (rowsB nd es)::blk b1 [I64 (nd),va] 48::I) from (Cg (Bw (α:=Int) _ _) Bt)) ?_)))
  rintro ⟨done,left,kk,dgs2,bks2,ao,co⟩ hp
  dsimp only at hp ⊢
  obtain ⟨hc,hB2,hln,hkk⟩:=hp
  have hdl2:=hB2.dlen
  have hbl2:=hB2.blen
  have hold:=ordL_len done
  have hnl:=numL_len (rowsB nd es).length done
  have hdg64:∀u∈listB left,degB (rowsB nd es) left u<64:=fun u hu=>by have hr:=hB2.rng u hu;have:=degB_lt hS left hr.1 hr.2;omega
  refine Au (Ai (Gm rfl (Gr (Runs.neB (a:=left) (b:=0#64) rfl rfl) (Af (A7 rfl (fun c50=>?_) (fun c50=>?_))))))
  ·refine Aw (Aj (A4 (Ai (Gm rfl (Af (A4 (Bv (σ:=Nat) (fun s=>([(2,.slice ao (ordL done).length co),(3,.slice ad7 (List.replicate ((rowsB nd es).length) (default:Int)).length cp8),(4,.slice ad2 (rowsB nd es).length cp3),(5,.pointer (some ⟨b4,0,none⟩)),(6,.slice ad5 (List.replicate ((rowsB nd es).length) (default:Int)).length cp6),(9,U64 (left)),(10,I64 ((kk:Int))),(51,I64 (((s:Nat):Int)))]:Env)) (fun s=>vc 3 (.slice ao (ordL done).length co) (ordL done)::vc 3 (.slice ad7 (List.replicate ((rowsB nd es).length) (default:Int)).length cp8) (numL (rowsB nd es).length done)::vc 3 (.slice ad5 (List.replicate ((rowsB nd es).length) (default:Int)).length cp6) (dgs2)::blk b4 (cells (bks2:List (BitVec 64))) 264::vc 175 (.slice ad2 (rowsB nd es).length cp3) (rowsB nd es)::blk b1 [I64 (nd),va] 48::I) (fun s=>(s≤64)∧(∀c:Int,0≤c→c<((s:Nat):Int)→at_ bks2 c=0#64)) (fun s=>64 - s) (0) (show ((0:Nat)≤64)∧(∀c:Int,0≤c→c<(((0:Nat):Nat):Int)→at_ bks2 c=0#64) from ⟨om,(fun c h1 h2=>by omega)⟩) (Aa rfl (Aa rfl (Aa rfl (Aa rfl (Aa rfl (Aa rfl (Aa rfl (Aa B8 Bg)))))))) (show Fit κ _ (vc 3 (.slice ao (ordL done).length co) (ordL done)::vc 3 (.slice ad7 (List.replicate ((rowsB nd es).length) (default:Int)).length cp8) (numL (rowsB nd es).length done)::vc 3 (.slice ad5 (List.replicate ((rowsB nd es).length) (default:Int)).length cp6) (dgs2)::blk b4 (cells (bks2:List (BitVec 64))) 264::vc 175 (.slice ad2 (rowsB nd es).length cp3) (rowsB nd es)::blk b1 [I64 (nd),va] 48::I) from A5) ?_)))))))
   rintro dd hp
   obtain ⟨hdd,hz⟩:=hp
   refine Ai (Gr (A9 rfl rfl) (Af (Au (A7 rfl (fun c52=>?_) (fun c52=>?_)))))
   ·refine Aw (Aj (Au (A4 (Ai (Gm rfl (Ga rfl (Af (Au (Ai (Gm rfl (Gr (Cn Ct ty175 rfl rfl om oo) (Gr (E6 (xs:=bks2) ty175 rfl (Ci mm) om oo) (Gr (Runs.eqB (a:=at_ bks2 (dd:Int)) (b:=0#64) rfl rfl) (Af (Ar (S10 57 11 2 3 4 5 6 9 10 51 rfl rfl rfl rfl rfl rfl rfl rfl rfl rfl) (A7 rfl (fun c57=>?_) (fun c57=>?_)))))))))))))))))
    ·exact Bs (Am (A6 (Aj (Az (Gr (Rad rfl rfl) (Gm rfl (Bc (B3 ((dd+1)) ⟨om,(fun c h1 h2=>by by_cases e:c=(dd:Int);(· rw [e];assumption);(· exact hz c h1 om))⟩))))))))
    ·refine Aw (Aj (Ai (Gm rfl (Gr (Cn Ct ty175 rfl rfl om oo) (Gr (E6 (xs:=bks2) ty175 rfl (Ci mm) om oo) (Gc0 (Ap call238 rfl rfl (Least_ok (at_ bks2 (dd:Int)) (B9 hT A0))) ?_))))))
     have hTT:=hB2.takes (d:=(dd:Int)) om om c57 hz hdg64
     generalize hvE:tzB (at_ bks2 (dd:Int))=v at hTT ⊢
     obtain ⟨hTk,hdv⟩:=hTT
     have hvm:=hTk.mem
     have hvr:=hB2.rng v hvm
     refine Ga rfl (Af (Ar (S9 12 11 2 3 4 5 6 9 10 rfl rfl rfl rfl rfl rfl rfl rfl rfl) (Ai (Gm rfl (Gm rfl (Gr (En rfl rfl) ?_))))))
     have hmx:(if (kk:Int)<(dd:Int) then (dd:Int) else (kk:Int))=(((max kk dd):Nat):Int):=by split<;>omega
     rw [hmx]
     refine Ga rfl (Af (Ar (S9 10 12 11 2 3 4 5 6 9 rfl rfl rfl rfl rfl rfl rfl rfl rfl) (Ai (Gm rfl (Gm rfl (Gm rfl (Gr (A3 (α:=Int) (xs:=numL (rowsB nd es).length done) Ac ty3 rfl rfl Bf om oo) (Ge0 (C6 (α:=Int) (xs:=numL (rowsB nd es).length done) (e:=3) (new:=(((max kk dd):Nat):Int)) ty3 rfl rfl rfl om oo am) ?_))))))))
     refine Af (Ai (Gm rfl (Gm rfl (Ge1 (B1 (α:=Int) (cs:=[_]) (xs:=[v]) Ac ty3 rfl rfl dc dc rfl rfl rfl rfl) fun ad9=>?_))))
     refine Ge2 (B0 (α:=Int) (e:=3) (xs:=ordL done) (ys:=([v]:List Int)) Ac ty3 rfl rfl rfl mm Bf lcn dc rfl (fun _ _=>am)) fun ad10 cp11=>?_
     refine Ga rfl (Af (Ar (S9 2 10 12 11 3 4 5 6 9 rfl rfl rfl rfl rfl rfl rfl rfl rfl) (Ai (Gm rfl (Gm rfl (G.e (Ap call237 rfl rfl (Bit_ok v)) ?_))))))
     rintro _ _ ⟨_,_,⟨rfl,rfl⟩,rfl,rfl⟩
     rw [show bitB v=1#64 <<< (v).toNat from bit_sh om om]
     refine Gr (Eh (a:=left) (b:=1#64 <<< (v).toNat) rfl rfl) (Ga rfl (Af (Ar (S9 9 2 10 12 11 3 4 5 6 rfl rfl rfl rfl rfl rfl rfl rfl rfl) (Au (Bk mixed (Bo (vc 3 (.slice ad9 1 1) (([v]:List Int))::vc 3 (.slice ad10 ((ordL done)++([v]:List Int)).length cp11) ((ordL done)++([v]:List Int))::vc 3 (.slice ad7 (List.replicate ((rowsB nd es).length) (default:Int)).length cp8) (List.set (numL (rowsB nd es).length done) (v).toNat ((((max kk dd):Nat):Int)))::vc 3 (.slice ad5 (List.replicate ((rowsB nd es).length) (default:Int)).length cp6) (dgs2)::blk b4 (cells (bks2:List (BitVec 64))) 264::vc 175 (.slice ad2 (rowsB nd es).length cp3) (rowsB nd es)::blk b1 [I64 (nd),va] 48::I) 7 (Dr 0 rfl (Ad rfl) (Dr 1 rfl (Cn Ct ty175 rfl rfl om oo) (Dr 2 rfl (E6 (xs:=bks2) ty175 rfl (Ci mm) om oo) (Dr 3 rfl (Ad rfl) (Ds1 4 (Se rfl (Ap call237 rfl rfl (Bit_ok v)) ?_))))))))))))
     rintro _ _ ⟨_,_,⟨rfl,rfl⟩,rfl,rfl⟩
     refine ⟨A0,?_⟩
     rw [show bitB v=1#64 <<< (v).toNat from bit_sh om om]
     refine Dr 5 rfl (Eh (a:=at_ bks2 (dd:Int)) (b:=1#64 <<< (v).toNat) rfl rfl) (Dr 6 rfl (Cn Ct ty175 rfl rfl om oo) (Dc kr ?_))
     refine Ae 7 rfl (Eff.setAU (xs:=bks2) (i:=(dd:Int)) (n:=(at_ bks2 (dd:Int)) &&& ~~~(1#64 <<< (v).toNat)) ty175 rfl rfl rfl om oo am) ?_
     rintro _ _ ⟨rfl,rfl⟩
     refine De kr ?_
     refine Aj (Ar (S8 9 2 10 12 3 4 5 6 rfl rfl rfl rfl rfl rfl rfl rfl) (Au (Ai (Gm rfl (Gm rfl (Gr (A3 (α:=(BitVec 64)) (xs:=rowsB nd es) Cd ty175 rfl rfl Bf om oo) (Gr (Dy (α:=(BitVec 64)) (xs:=rowsB nd es) (u:=U64 ((at_ (rowsB nd es) v))) ty175 rfl Bf om oo rfl) (Gm rfl (Gr (C5 (a:=(at_ (rowsB nd es) v)) (b:=left &&& ~~~(1#64 <<< (v).toNat)) rfl rfl) (Gc2 (Ap call171 rfl rfl (MList_ok ((at_ (rowsB nd es) v) &&& (left &&& ~~~(1#64 <<< (v).toNat))) (B9 hT A0))) fun ad12 cp13=>?_))))))))))
     refine Gr (Bp Ac rfl) (Gm rfl (Af (Ar (S10 92 91 90 9 2 10 3 4 5 6 rfl rfl rfl rfl rfl rfl rfl rfl rfl rfl) (A4 (Bv (σ:=Nat×(List Int)×(List (BitVec 64))) (fun s=>([(2,.slice ad10 ((ordL done)++([v]:List Int)).length cp11),(3,.slice ad7 (List.replicate ((rowsB nd es).length) (default:Int)).length cp8),(4,.slice ad2 (rowsB nd es).length cp3),(5,.pointer (some ⟨b4,0,none⟩)),(6,.slice ad5 (List.replicate ((rowsB nd es).length) (default:Int)).length cp6),(9,U64 (left &&& ~~~(1#64 <<< (v).toNat))),(10,I64 ((((max kk dd):Nat):Int))),(90,.slice ad12 (listB ((at_ (rowsB nd es) v) &&& (left &&& ~~~(1#64 <<< (v).toNat)))).length cp13),(91,I64 ((((listB ((at_ (rowsB nd es) v) &&& (left &&& ~~~(1#64 <<< (v).toNat)))).length:Nat):Int))),(92,I64 (((s.1:Nat):Int)))]:Env)) (fun s=>vc 3 (.slice ad12 (listB ((at_ (rowsB nd es) v) &&& (left &&& ~~~(1#64 <<< (v).toNat)))).length cp13) (listB ((at_ (rowsB nd es) v) &&& (left &&& ~~~(1#64 <<< (v).toNat))))::vc 3 (.slice ad9 1 1) (([v]:List Int))::vc 3 (.slice ad10 ((ordL done)++([v]:List Int)).length cp11) ((ordL done)++([v]:List Int))::vc 3 (.slice ad7 (List.replicate ((rowsB nd es).length) (default:Int)).length cp8) (List.set (numL (rowsB nd es).length done) (v).toNat ((((max kk dd):Nat):Int)))::vc 3 (.slice ad5 (List.replicate ((rowsB nd es).length) (default:Int)).length cp6) (s.2.1)::blk b4 (cells (s.2.2:List (BitVec 64))) 264::vc 175 (.slice ad2 (rowsB nd es).length cp3) (rowsB nd es)::blk b1 [I64 (nd),va] 48::I) (fun s=>(s.1≤(listB (at_ (rowsB nd es) v &&& (left &&& ~~~(1#64 <<< (v).toNat)))).length)∧(BkOk (rowsB nd es).length (fun u=>u∈listB (left &&& ~~~(1#64 <<< (v).toNat))) (degM (rowsB nd es) left (listB (at_ (rowsB nd es) v &&& (left &&& ~~~(1#64 <<< (v).toNat)))) s.1) s.2.1 s.2.2)) (fun s=>(listB (at_ (rowsB nd es) v &&& (left &&& ~~~(1#64 <<< (v).toNat)))).length - s.1) (0,dgs2,List.set bks2 ((dd:Int)).toNat ((at_ bks2 (dd:Int)) &&& ~~~(1#64 <<< (v).toNat))) (show ((0:Nat)≤(listB (at_ (rowsB nd es) v &&& (left &&& ~~~(1#64 <<< (v).toNat)))).length)∧(BkOk (rowsB nd es).length (fun u=>u∈listB (left &&& ~~~(1#64 <<< (v).toNat))) (degM (rowsB nd es) left (listB (at_ (rowsB nd es) v &&& (left &&& ~~~(1#64 <<< (v).toNat)))) (0:Nat)) (dgs2:List Int) (List.set bks2 ((dd:Int)).toNat ((at_ bks2 (dd:Int)) &&& ~~~(1#64 <<< (v).toNat)):List (BitVec 64))) from ⟨om,((hB2.drop hvm hdv om (fun u=>mem_minus om)).congr (fun u=>Iff.rfl) (fun u _=>degM_zero _ _ _ u))⟩) (Aa rfl (Aa rfl (Aa rfl (Aa rfl (Aa rfl (Aa rfl (Aa rfl (Aa rfl (Aa rfl (Aa B8 Bg)))))))))) (show Fit κ _ (vc 3 (.slice ad12 (listB ((at_ (rowsB nd es) v) &&& (left &&& ~~~(1#64 <<< (v).toNat)))).length cp13) (listB ((at_ (rowsB nd es) v) &&& (left &&& ~~~(1#64 <<< (v).toNat))))::vc 3 (.slice ad9 1 1) (([v]:List Int))::vc 3 (.slice ad10 ((ordL done)++([v]:List Int)).length cp11) ((ordL done)++([v]:List Int))::vc 3 (.slice ad7 (List.replicate ((rowsB nd es).length) (default:Int)).length cp8) (List.set (numL (rowsB nd es).length done) (v).toNat ((((max kk dd):Nat):Int)))::vc 3 (.slice ad5 (List.replicate ((rowsB nd es).length) (default:Int)).length cp6) ((dgs2))::blk b4 (cells ((List.set bks2 ((dd:Int)).toNat ((at_ bks2 (dd:Int)) &&& ~~~(1#64 <<< (v).toNat))):List (BitVec 64))) 264::vc 175 (.slice ad2 (rowsB nd es).length cp3) (rowsB nd es)::blk b1 [I64 (nd),va] 48::I) from A5) ?_)))))
     rintro ⟨j,dgs1,bks1⟩ hp
     dsimp only at hp ⊢
     obtain ⟨hj,hB1⟩:=hp
     have hdl1:=hB1.dlen
     have hbl1:=hB1.blen
     have hwsl:(listB (at_ (rowsB nd es) v &&& (left &&& ~~~(1#64 <<< (v).toNat)))).length≤64:=Ey _
     have hwj:j<(listB (at_ (rowsB nd es) v &&& (left &&& ~~~(1#64 <<< (v).toNat)))).length→(at_ (listB (at_ (rowsB nd es) v &&& (left &&& ~~~(1#64 <<< (v).toNat)))) (j:Int))∈listB (left &&& ~~~(1#64 <<< (v).toNat))∧(at_ (listB (at_ (rowsB nd es) v &&& (left &&& ~~~(1#64 <<< (v).toNat)))) (j:Int))∈listB (at_ (rowsB nd es) v):=fun h=>by have h1:=Cf (xs:=(listB (at_ (rowsB nd es) v &&& (left &&& ~~~(1#64 <<< (v).toNat))))) (i:=(j:Int)) om om;exact ⟨(mem_andB.1 h1).2,(mem_andB.1 h1).1⟩
     refine Ai (Gr (A9 rfl rfl) (Af (Au (A7 rfl (fun c93=>?_) (fun c93=>?_)))))
     ·refine Aw (Aj (Au (A4 (Ai (Gr (A3 (α:=Int) (xs:=listB ((at_ (rowsB nd es) v) &&& (left &&& ~~~(1#64 <<< (v).toNat)))) Ac ty3 rfl rfl Bf om oo) (Gr (Br (xs:=listB ((at_ (rowsB nd es) v) &&& (left &&& ~~~(1#64 <<< (v).toNat)))) ty3 rfl Bf om oo) (Ga rfl ?_)))))))
      have hwm:=hwj om
      have hwr:=hB1.rng (at_ (listB (at_ (rowsB nd es) v &&& (left &&& ~~~(1#64 <<< (v).toNat)))) (j:Int)) hwm.1
      have hdeg0:=hB1.deg (at_ (listB (at_ (rowsB nd es) v &&& (left &&& ~~~(1#64 <<< (v).toNat)))) (j:Int)) hwm.1
      have hdeg:=hdeg0
      have hnow:=degM_now (rows:=rowsB nd es) (left:=left) (ws:=(listB (at_ (rowsB nd es) v &&& (left &&& ~~~(1#64 <<< (v).toNat))))) (j:=j) om (Ep _)
      have hlw:(at_ (listB (at_ (rowsB nd es) v &&& (left &&& ~~~(1#64 <<< (v).toNat)))) (j:Int))∈listB left:=((mem_minus om).1 hwm.1).1
      have hw64:=hdg64 (at_ (listB (at_ (rowsB nd es) v &&& (left &&& ~~~(1#64 <<< (v).toNat)))) (j:Int)) hlw
      have hw1:1≤degB (rowsB nd es) left (at_ (listB (at_ (rowsB nd es) v &&& (left &&& ~~~(1#64 <<< (v).toNat)))) (j:Int)):=List.length_pos_of_mem (mem_andB.2 ⟨hS.sym v (at_ (listB (at_ (rowsB nd es) v &&& (left &&& ~~~(1#64 <<< (v).toNat)))) (j:Int)) om om hwm.2,hvm⟩)
      rw [hnow] at hdeg
      refine Af (Ar (S11 14 2 3 4 5 6 9 10 90 91 92 rfl rfl rfl rfl rfl rfl rfl rfl rfl rfl rfl) (Au (Bk mixed (Bo (vc 3 (.slice ad12 (listB ((at_ (rowsB nd es) v) &&& (left &&& ~~~(1#64 <<< (v).toNat)))).length cp13) (listB ((at_ (rowsB nd es) v) &&& (left &&& ~~~(1#64 <<< (v).toNat))))::vc 3 (.slice ad9 1 1) (([v]:List Int))::vc 3 (.slice ad10 ((ordL done)++([v]:List Int)).length cp11) ((ordL done)++([v]:List Int))::vc 3 (.slice ad7 (List.replicate ((rowsB nd es).length) (default:Int)).length cp8) (List.set (numL (rowsB nd es).length done) (v).toNat ((((max kk dd):Nat):Int)))::vc 3 (.slice ad5 (List.replicate ((rowsB nd es).length) (default:Int)).length cp6) (dgs1)::blk b4 (cells (bks1:List (BitVec 64))) 264::vc 175 (.slice ad2 (rowsB nd es).length cp3) (rowsB nd es)::blk b1 [I64 (nd),va] 48::I) 10 (Dr 0 rfl (Ad rfl) (Dr 1 rfl (Ad rfl) (Dr 2 rfl (A3 (α:=Int) (xs:=dgs1) Ac ty3 rfl rfl Bf om oo) (Dr 3 rfl (Br (xs:=dgs1) ty3 rfl Bf om oo) (Dr 4 rfl (Cn Ct ty175 rfl rfl om oo) (Dr 5 rfl (E6 (xs:=bks1) ty175 rfl (Ci mm) om oo) (Dr 6 rfl (Ad rfl) (Ds1 7 (Se rfl (Ap call237 rfl rfl (Bit_ok (at_ (listB ((at_ (rowsB nd es) v) &&& (left &&& ~~~(1#64 <<< (v).toNat)))) (j:Int)))) ?_)))))))))))))
      rintro _ _ ⟨_,_,⟨rfl,rfl⟩,rfl,rfl⟩
      refine ⟨A0,?_⟩
      refine Dr 8 rfl (Eh (a:=at_ bks1 (at_ dgs1 (at_ (listB ((at_ (rowsB nd es) v) &&& (left &&& ~~~(1#64 <<< (v).toNat)))) (j:Int)))) (b:=bitB (at_ (listB ((at_ (rowsB nd es) v) &&& (left &&& ~~~(1#64 <<< (v).toNat)))) (j:Int))) rfl rfl) (Dr 9 rfl (Cn Ct ty175 rfl rfl om oo) (Dc kr ?_))
      refine Ae 10 rfl (Eff.setAU (xs:=bks1) (i:=at_ dgs1 (at_ (listB ((at_ (rowsB nd es) v) &&& (left &&& ~~~(1#64 <<< (v).toNat)))) (j:Int))) (n:=(at_ bks1 (at_ dgs1 (at_ (listB ((at_ (rowsB nd es) v) &&& (left &&& ~~~(1#64 <<< (v).toNat)))) (j:Int)))) &&& ~~~(bitB (at_ (listB ((at_ (rowsB nd es) v) &&& (left &&& ~~~(1#64 <<< (v).toNat)))) (j:Int)))) ty175 rfl rfl rfl om oo am) ?_
      rintro _ _ ⟨rfl,rfl⟩
      refine De kr ?_
      refine Aj (Ar (S11 14 2 3 4 5 6 9 10 90 91 92 rfl rfl rfl rfl rfl rfl rfl rfl rfl rfl rfl) (Ai (Gm rfl (Gm rfl (Gr (A3 (α:=Int) (xs:=dgs1) Ac ty3 rfl rfl Bf om oo) (Gr (Br (xs:=dgs1) ty3 rfl Bf om oo) (Gr (Rsu rfl rfl) (Gr (A3 (α:=Int) (xs:=dgs1) Ac ty3 rfl rfl Bf om oo) (Ge0 (C6 (α:=Int) (xs:=dgs1) (e:=3) (new:=(at_ dgs1 (at_ (listB ((at_ (rowsB nd es) v) &&& (left &&& ~~~(1#64 <<< (v).toNat)))) (j:Int))) - 1) ty3 rfl rfl rfl om oo am) ?_)))))))))
      have hset2:at_ (List.set dgs1 (at_ (listB ((at_ (rowsB nd es) v) &&& (left &&& ~~~(1#64 <<< (v).toNat)))) (j:Int)).toNat ((at_ dgs1 (at_ (listB ((at_ (rowsB nd es) v) &&& (left &&& ~~~(1#64 <<< (v).toNat)))) (j:Int))) - 1)) (at_ (listB (at_ (rowsB nd es) v &&& (left &&& ~~~(1#64 <<< (v).toNat)))) (j:Int))=at_ dgs1 (at_ (listB (at_ (rowsB nd es) v &&& (left &&& ~~~(1#64 <<< (v).toNat)))) (j:Int)) - 1:=by rw [Dl _ _ _ _ om om om,if_pos rfl]
      refine Af (Ar (S11 14 2 3 4 5 6 9 10 90 91 92 rfl rfl rfl rfl rfl rfl rfl rfl rfl rfl rfl) (Bk mixed (Bo (vc 3 (.slice ad12 (listB ((at_ (rowsB nd es) v) &&& (left &&& ~~~(1#64 <<< (v).toNat)))).length cp13) (listB ((at_ (rowsB nd es) v) &&& (left &&& ~~~(1#64 <<< (v).toNat))))::vc 3 (.slice ad9 1 1) (([v]:List Int))::vc 3 (.slice ad10 ((ordL done)++([v]:List Int)).length cp11) ((ordL done)++([v]:List Int))::vc 3 (.slice ad7 (List.replicate ((rowsB nd es).length) (default:Int)).length cp8) (List.set (numL (rowsB nd es).length done) (v).toNat ((((max kk dd):Nat):Int)))::vc 3 (.slice ad5 (List.replicate ((rowsB nd es).length) (default:Int)).length cp6) (List.set dgs1 (at_ (listB ((at_ (rowsB nd es) v) &&& (left &&& ~~~(1#64 <<< (v).toNat)))) (j:Int)).toNat ((at_ dgs1 (at_ (listB ((at_ (rowsB nd es) v) &&& (left &&& ~~~(1#64 <<< (v).toNat)))) (j:Int))) - 1))::blk b4 (cells (List.set bks1 (at_ dgs1 (at_ (listB ((at_ (rowsB nd es) v) &&& (left &&& ~~~(1#64 <<< (v).toNat)))) (j:Int))).toNat ((at_ bks1 (at_ dgs1 (at_ (listB ((at_ (rowsB nd es) v) &&& (left &&& ~~~(1#64 <<< (v).toNat)))) (j:Int)))) &&& ~~~(bitB (at_ (listB ((at_ (rowsB nd es) v) &&& (left &&& ~~~(1#64 <<< (v).toNat)))) (j:Int)))):List (BitVec 64))) 264::vc 175 (.slice ad2 (rowsB nd es).length cp3) (rowsB nd es)::blk b1 [I64 (nd),va] 48::I) 10 (Dr 0 rfl (Ad rfl) (Dr 1 rfl (Ad rfl) (Dr 2 rfl (A3 (α:=Int) (xs:=List.set dgs1 (at_ (listB ((at_ (rowsB nd es) v) &&& (left &&& ~~~(1#64 <<< (v).toNat)))) (j:Int)).toNat ((at_ dgs1 (at_ (listB ((at_ (rowsB nd es) v) &&& (left &&& ~~~(1#64 <<< (v).toNat)))) (j:Int))) - 1)) Ac ty3 rfl rfl Bf om oo) (Dr 3 rfl (Br (xs:=List.set dgs1 (at_ (listB ((at_ (rowsB nd es) v) &&& (left &&& ~~~(1#64 <<< (v).toNat)))) (j:Int)).toNat ((at_ dgs1 (at_ (listB ((at_ (rowsB nd es) v) &&& (left &&& ~~~(1#64 <<< (v).toNat)))) (j:Int))) - 1)) ty3 rfl Bf om oo) (Dr 4 rfl (Cn Ct ty175 rfl rfl om oo) (Dr 5 rfl (E6 (xs:=List.set bks1 (at_ dgs1 (at_ (listB ((at_ (rowsB nd es) v) &&& (left &&& ~~~(1#64 <<< (v).toNat)))) (j:Int))).toNat ((at_ bks1 (at_ dgs1 (at_ (listB ((at_ (rowsB nd es) v) &&& (left &&& ~~~(1#64 <<< (v).toNat)))) (j:Int)))) &&& ~~~(bitB (at_ (listB ((at_ (rowsB nd es) v) &&& (left &&& ~~~(1#64 <<< (v).toNat)))) (j:Int))))) ty175 rfl (Ci mm) om oo) (Dr 6 rfl (Ad rfl) (Ds1 7 (Se rfl (Ap call237 rfl rfl (Bit_ok (at_ (listB ((at_ (rowsB nd es) v) &&& (left &&& ~~~(1#64 <<< (v).toNat)))) (j:Int)))) ?_))))))))))))
      rintro _ _ ⟨_,_,⟨rfl,rfl⟩,rfl,rfl⟩
      refine ⟨A0,?_⟩
      refine Dr 8 rfl (E3 (a:=at_ (List.set bks1 (at_ dgs1 (at_ (listB ((at_ (rowsB nd es) v) &&& (left &&& ~~~(1#64 <<< (v).toNat)))) (j:Int))).toNat ((at_ bks1 (at_ dgs1 (at_ (listB ((at_ (rowsB nd es) v) &&& (left &&& ~~~(1#64 <<< (v).toNat)))) (j:Int)))) &&& ~~~(bitB (at_ (listB ((at_ (rowsB nd es) v) &&& (left &&& ~~~(1#64 <<< (v).toNat)))) (j:Int))))) (at_ (List.set dgs1 (at_ (listB ((at_ (rowsB nd es) v) &&& (left &&& ~~~(1#64 <<< (v).toNat)))) (j:Int)).toNat ((at_ dgs1 (at_ (listB ((at_ (rowsB nd es) v) &&& (left &&& ~~~(1#64 <<< (v).toNat)))) (j:Int))) - 1)) (at_ (listB ((at_ (rowsB nd es) v) &&& (left &&& ~~~(1#64 <<< (v).toNat)))) (j:Int)))) (b:=bitB (at_ (listB ((at_ (rowsB nd es) v) &&& (left &&& ~~~(1#64 <<< (v).toNat)))) (j:Int))) rfl rfl) (Dr 9 rfl (Cn Ct ty175 rfl rfl om oo) (Dc kr ?_))
      refine Ae 10 rfl (Eff.setAU (xs:=List.set bks1 (at_ dgs1 (at_ (listB ((at_ (rowsB nd es) v) &&& (left &&& ~~~(1#64 <<< (v).toNat)))) (j:Int))).toNat ((at_ bks1 (at_ dgs1 (at_ (listB ((at_ (rowsB nd es) v) &&& (left &&& ~~~(1#64 <<< (v).toNat)))) (j:Int)))) &&& ~~~(bitB (at_ (listB ((at_ (rowsB nd es) v) &&& (left &&& ~~~(1#64 <<< (v).toNat)))) (j:Int))))) (i:=at_ (List.set dgs1 (at_ (listB ((at_ (rowsB nd es) v) &&& (left &&& ~~~(1#64 <<< (v).toNat)))) (j:Int)).toNat ((at_ dgs1 (at_ (listB ((at_ (rowsB nd es) v) &&& (left &&& ~~~(1#64 <<< (v).toNat)))) (j:Int))) - 1)) (at_ (listB ((at_ (rowsB nd es) v) &&& (left &&& ~~~(1#64 <<< (v).toNat)))) (j:Int))) (n:=(at_ (List.set bks1 (at_ dgs1 (at_ (listB ((at_ (rowsB nd es) v) &&& (left &&& ~~~(1#64 <<< (v).toNat)))) (j:Int))).toNat ((at_ bks1 (at_ dgs1 (at_ (listB ((at_ (rowsB nd es) v) &&& (left &&& ~~~(1#64 <<< (v).toNat)))) (j:Int)))) &&& ~~~(bitB (at_ (listB ((at_ (rowsB nd es) v) &&& (left &&& ~~~(1#64 <<< (v).toNat)))) (j:Int))))) (at_ (List.set dgs1 (at_ (listB ((at_ (rowsB nd es) v) &&& (left &&& ~~~(1#64 <<< (v).toNat)))) (j:Int)).toNat ((at_ dgs1 (at_ (listB ((at_ (rowsB nd es) v) &&& (left &&& ~~~(1#64 <<< (v).toNat)))) (j:Int))) - 1)) (at_ (listB ((at_ (rowsB nd es) v) &&& (left &&& ~~~(1#64 <<< (v).toNat)))) (j:Int)))) ||| (bitB (at_ (listB ((at_ (rowsB nd es) v) &&& (left &&& ~~~(1#64 <<< (v).toNat)))) (j:Int)))) ty175 rfl rfl rfl om oo am) ?_
      rintro _ _ ⟨rfl,rfl⟩
      refine De kr ?_
      exact Ak (Aj (Ar (S10 2 3 4 5 6 9 10 90 91 92 rfl rfl rfl rfl rfl rfl rfl rfl rfl rfl) (Az (Gr (Rad rfl rfl) (Gm rfl (Bc (B3 ((j+1),(List.set dgs1 (at_ (listB ((at_ (rowsB nd es) v) &&& (left &&& ~~~(1#64 <<< (v).toNat)))) (j:Int)).toNat ((at_ dgs1 (at_ (listB ((at_ (rowsB nd es) v) &&& (left &&& ~~~(1#64 <<< (v).toNat)))) (j:Int))) - 1)),(List.set (List.set bks1 (at_ dgs1 (at_ (listB ((at_ (rowsB nd es) v) &&& (left &&& ~~~(1#64 <<< (v).toNat)))) (j:Int))).toNat ((at_ bks1 (at_ dgs1 (at_ (listB ((at_ (rowsB nd es) v) &&& (left &&& ~~~(1#64 <<< (v).toNat)))) (j:Int)))) &&& ~~~(bitB (at_ (listB ((at_ (rowsB nd es) v) &&& (left &&& ~~~(1#64 <<< (v).toNat)))) (j:Int))))) (at_ (List.set dgs1 (at_ (listB ((at_ (rowsB nd es) v) &&& (left &&& ~~~(1#64 <<< (v).toNat)))) (j:Int)).toNat ((at_ dgs1 (at_ (listB ((at_ (rowsB nd es) v) &&& (left &&& ~~~(1#64 <<< (v).toNat)))) (j:Int))) - 1)) (at_ (listB ((at_ (rowsB nd es) v) &&& (left &&& ~~~(1#64 <<< (v).toNat)))) (j:Int))).toNat ((at_ (List.set bks1 (at_ dgs1 (at_ (listB ((at_ (rowsB nd es) v) &&& (left &&& ~~~(1#64 <<< (v).toNat)))) (j:Int))).toNat ((at_ bks1 (at_ dgs1 (at_ (listB ((at_ (rowsB nd es) v) &&& (left &&& ~~~(1#64 <<< (v).toNat)))) (j:Int)))) &&& ~~~(bitB (at_ (listB ((at_ (rowsB nd es) v) &&& (left &&& ~~~(1#64 <<< (v).toNat)))) (j:Int))))) (at_ (List.set dgs1 (at_ (listB ((at_ (rowsB nd es) v) &&& (left &&& ~~~(1#64 <<< (v).toNat)))) (j:Int)).toNat ((at_ dgs1 (at_ (listB ((at_ (rowsB nd es) v) &&& (left &&& ~~~(1#64 <<< (v).toNat)))) (j:Int))) - 1)) (at_ (listB ((at_ (rowsB nd es) v) &&& (left &&& ~~~(1#64 <<< (v).toNat)))) (j:Int)))) ||| (bitB (at_ (listB ((at_ (rowsB nd es) v) &&& (left &&& ~~~(1#64 <<< (v).toNat)))) (j:Int)))))) (by dsimp only;exact ⟨om,(by have hN:=hB1.lower om (w:=(at_ (listB (at_ (rowsB nd es) v &&& (left &&& ~~~(1#64 <<< (v).toNat)))) (j:Int))) (e:=at_ dgs1 (at_ (listB (at_ (rowsB nd es) v &&& (left &&& ~~~(1#64 <<< (v).toNat)))) (j:Int))) hwm.1 hdeg0.symm om om (dg':=degM (rowsB nd es) left (listB (at_ (rowsB nd es) v &&& (left &&& ~~~(1#64 <<< (v).toNat)))) (j+1)) (fun u _=>degM_succ om (Ep _) u);rw [hset2,bit_sh om om];exact hN)⟩))))))))
     ·exact Bs (Am (Am (A6 (Aj (Bs (Dg rfl (Am (Am (Dg rfl (A6 (B3 ((done++[(v,max kk dd)]),((left &&& ~~~(1#64 <<< (v).toNat))),(max kk dd),(dgs1),(bks1),(ad10),(cp11)) (by dsimp only;exact ⟨(core_step hc hTk om),(hB1.congr (fun u=>Iff.rfl) (fun u hu=>by have hr:=hB1.rng u hu;exact (degM_all hS om om hvm hr.1 hr.2 hu om).symm)),(by have:=listB_minus hvm;simp only [List.length_append,List.length_cons,List.length_nil];omega),om⟩) (hlt:=by (try dsimp only);exact (by have:=listB_minus hvm;omega)) (hL:=(Aa (Cp rfl (by first|rfl|(rw [ordL_snoc])|simp)) (Aa rfl (Aa rfl (Aa rfl (Aa rfl (Aa (Cp rfl (by first|rfl|(rw [ordL_snoc])|simp)) (Aa rfl Bg)))))))) (hI:=by (try dsimp only);exact (by rw [ordL_snoc,numL_snoc];exact Bt)))))))))))))
   ·exact (hB2.some (Classical.not_not.1 (fun h=>h asm)) hdg64 (fun c h1 h2=>hz c h1 om)).elim
  ·refine Bs (Am (Am (A6 (Aj (Ai (Gm rfl (Gm rfl (Ga rfl (Ga rfl (Af (Ax (V.jump_ret ?_))))))))))))
   have hl0:left=0#64:=Classical.not_not.1 c50
   have hdn:done=coreR0 nd es:=by rw [←hc,hl0,coreR_zero,List.append_nil]
   subst hdn
   have hcl:=coreL_len nd es
   exact Cl rfl rfl rfl (vc 3 (.slice ao (coreO nd es).length co) (coreO nd es)::vc 3 (.slice ad7 (coreL nd es).length cp8) (coreL nd es)::I) (by rw [hcl];simp only [List.length_replicate];exact Bt) ⟨ao,co,ad7,cp8,by rw [hcl];simp only [List.length_replicate];rfl,rfl⟩
variable {κ:Ctx}{I:List Item}
theorem CNumbers_ok{nd:Int}{va:Value}{es:List Pt}(hl:Sl κ I va es)(hT:TabRd κ I 0 tzCells) :
    CallS Tryz.prog κ 104 [.agg #[I64 (nd),va]] I (fun r J=>∃a c,r = .tuple #[.slice a (coreN nd es).length c,I64 (checkG nd es)]∧J=vc 3 (.slice a (coreN nd es).length c) (coreN nd es)::I):=by
 refine Ce1 Tryz.func104 rfl rfl ?_
 refine Ai (Ge1 (Bd (cs:=[_,_]) rfl rfl rfl) fun b1=>Ga rfl (Ga rfl (Af (Au (Ai (Gl2 ty48 ?_))))))
 refine Gc0 (Ap call83 rfl rfl (CheckGen_ok (Bj hl))) ?_
 refine Ga rfl (Af (Ai (Gm rfl (Gr (Be rfl rfl) (Af (A7 rfl (fun c10=>?_) (fun c10=>?_)))))))
 ·refine Ai (Gm rfl (Ga rfl (Ga rfl (Af (Ax (Ah ?_))))))
  have hX:(coreN nd es)=[]:=if_pos c10
  exact Cl rfl rfl rfl (vc 3 (.slice none (coreN nd es).length 0) (coreN nd es)::I) (by rw [hX];exact Cg (show Fit κ _ I from A0) (Bw (α:=Int) _ _)) ⟨none,0,by rw [hX];rfl,rfl⟩
 ·refine Aw (Aj (Ai (Gl2 ty48 ?_)))
  refine G.e (Ap call175 rfl rfl (CPeel_ok (nd:=nd) (Bj hl) (checkG_ok.1 (Classical.not_not.1 c10)) (B9 hT A0))) ?_
  rintro _ _ ⟨_,_,⟨ad2,cp3,ad4,cp5,rfl,rfl⟩,rfl,rfl⟩
  refine Gm rfl (Gr (A2 rfl rfl) (Gr (A2 rfl rfl) (Ga rfl (Ga rfl (Af (Ar (S1 6 rfl) (Ai (Gm rfl (Ga rfl (Ga rfl (Af (Ax ?_))))))))))))
  have hX:(coreN nd es)=_:=if_neg c10
  have hz:checkG nd es=0:=Classical.not_not.1 c10
  exact Cl rfl rfl rfl (vc 3 (.slice ad4 (coreN nd es).length cp5) (coreN nd es)::I) (by rw [hX];exact A5) ⟨ad4,cp5,by rw [hX,hz]<;>rfl,rfl⟩
theorem coreN_len(nd:Int)(es:List Pt):(coreN nd es).length≤64:=by
 unfold coreN
 split
 ·simp
 ·rw [coreL_len,rowsB_len];omega
theorem CCore_ok{nd lv:Int}{va:Value}{es:List Pt}(hl:Sl κ I va es)(hT:TabRd κ I 0 tzCells) :
    CallS Tryz.prog κ 109 [.agg #[I64 (nd),va],I64 (lv)] I (fun r J=>∃a c,r = .tuple #[.slice a (coreK nd es lv).length c,I64 (checkG nd es)]∧J=vc 3 (.slice a (coreK nd es lv).length c) (coreK nd es lv)::I):=by
 have hnl0:=coreN_len nd es
 refine Ce2 Tryz.func109 rfl rfl ?_
 refine Ai (Ge1 (Bd (cs:=[_,_]) rfl rfl rfl) fun b1=>Ga rfl (Ga rfl (Af (Ai (Gl2 ty48 ?_)))))
 refine Gc2 (Ap call104 rfl rfl (CNumbers_ok (nd:=nd) (Bj hl) (B9 hT A0))) fun ad2 cp3=>?_
 refine Gm rfl (Gr (A2 rfl rfl) (Gr (A2 rfl rfl) (Ga rfl (Ga rfl (Af (Ai (Ga rfl (Af (Au (Ai (Gm rfl (Gr (Bp Ac rfl) (Gm rfl (Af (Ar (S6 18 17 16 8 7 1 rfl rfl rfl rfl rfl rfl) (A4 (Bv (σ:=Nat×(Option Addr)×Nat×(List Int)) (fun s=>([(1,I64 (lv)),(7,I64 (checkG nd es)),(8,.slice s.2.1 s.2.2.2.length s.2.2.1),(16,.slice ad2 (coreN nd es).length cp3),(17,I64 ((((coreN nd es).length:Nat):Int))),(18,I64 (((s.1:Nat):Int)))]:Env)) (fun s=>vc 3 (.slice s.2.1 s.2.2.2.length s.2.2.1) (s.2.2.2)::vc 3 (.slice ad2 (coreN nd es).length cp3) (coreN nd es)::blk b1 [I64 (nd),va] 48::I) (fun s=>(s.1≤(coreN nd es).length)∧(s.2.2.2=sideL s.1 (fun v=>decide (lv≤at_ (coreN nd es) v)))) (fun s=>(coreN nd es).length - s.1) (0,none,0,[]) (show ((0:Nat)≤(coreN nd es).length)∧(([]:List Int)=sideL (0:Nat) (fun v=>decide (lv≤at_ (coreN nd es) v))) from ⟨om,rfl⟩) (Aa rfl (Aa rfl (Aa (Cp rfl (by first|rfl|simp)) (Aa rfl (Aa rfl (Aa B8 Bg)))))) (show Fit κ _ (vc 3 (.slice (none) ([]).length (0)) (([]))::vc 3 (.slice ad2 (coreN nd es).length cp3) (coreN nd es)::blk b1 [I64 (nd),va] 48::I) from (Bw _ _)) ?_)))))))))))))))))
 rintro ⟨k,a,c,out⟩ hp
 dsimp only at hp ⊢
 obtain ⟨hk,ho⟩:=hp
 have hol:out.length≤k:=by rw [ho];exact sideL_len _ _
 have hnl:=coreN_len nd es
 refine Ai (Gr (A9 rfl rfl) (Af (Au (A7 rfl (fun c19=>?_) (fun c19=>?_)))))
 ·refine Aw (Aj (Au (A4 (Ai (Gm rfl (Gr (A3 (α:=Int) (xs:=coreN nd es) Ac ty3 rfl rfl Bf om om) (Gr (Br (xs:=coreN nd es) ty3 rfl Bf om om) (Ga rfl (Ga rfl (Af (Ai (Gm rfl (Gm rfl (Gr (B6 rfl rfl) (Af (Ar (S8 25 9 1 7 8 16 17 18 rfl rfl rfl rfl rfl rfl rfl rfl) (A7 rfl (fun c25=>?_) (fun c25=>?_))))))))))))))))))
  ·refine Az (Gm rfl (Gm rfl (Ge1 (B1 (α:=Int) (cs:=[_]) (xs:=[(k:Int)]) Ac ty3 rfl rfl dc dc rfl rfl rfl rfl) fun ad4=>?_)))
   refine Ge2 (B0 (α:=Int) (e:=3) (xs:=out) (ys:=([(k:Int)]:List Int)) Ac ty3 rfl rfl rfl mm Bf lcn dc rfl (fun _ _=>am)) fun ad5 cp6=>?_
   exact Ga rfl (Bc (Ak (Aj (Az (Gr (Rad rfl rfl) (Gm rfl (Bc (B3 ((k+1),(ad5),(cp6),(out++([(k:Int)]:List Int))) (by dsimp only;exact ⟨om,(by first|(rw [sideL_yes (decide_eq_true asm),←ho])|(rw [sideL_no (decide_eq_false asm),←ho]))⟩)))))))))
  ·exact Aw (Ak (Aj (Az (Gr (Rad rfl rfl) (Gm rfl (Bc (B3 ((k+1),(a),(c),(out)) (by dsimp only;exact ⟨om,(by first|(rw [sideL_yes (decide_eq_true asm),←ho])|(rw [sideL_no (decide_eq_false asm),←ho]))⟩))))))))
 ·refine Bs (Am (Am (A6 (Aj (Ai (Gm rfl (Gm rfl (Ga rfl (Ga rfl (Af (Ax ?_)))))))))))
  have hE:out=(coreK nd es lv):=by rw [ho,show k=(coreN nd es).length by omega];rfl
  exact Cl rfl rfl rfl (vc 3 (.slice a (coreK nd es lv).length c) (coreK nd es lv)::I) (by rw [←hE];exact A5) ⟨a,c,by rw [←hE],rfl⟩
end Go.Sl
