/- A part of the proofs of statements of this seat: contracts of functions, and the plain laws that they lean on. No conditions. -/
import Derived.Test.YtfkcohmipjhfcaaGreatDoorG13
import Derived.ScopeJumps
set_option linter.unusedVariables false
set_option linter.unusedSimpArgs false
set_option linter.unusedSectionVars false
namespace Go.Sl
open Go.Proofs
set_option maxRecDepth 4000
variable {κ:Ctx}{I:List Item}
theorem all_rows{nd:Int}{es:List Pt}(h:0≤nd∧nd≤64)(i:Nat)(hi:(allB nd).getLsbD i=true):i<(rowsB nd es).length:=by
 have h64:i<64:=Classical.byContradiction fun hn=>by rw [BitVec.getLsbD_of_ge _ _ om] at hi;cases hi
 rw [getLsb_allB h.1 h.2 h64,decide_eq_true_eq] at hi
 rw [rowsB_len];omega
theorem and_all_rows{nd:Int}{es:List Pt}(m:BitVec 64)(h:0≤nd∧nd≤64)(i:Nat)(hi:(m &&& allB nd).getLsbD i=true):i<(rowsB nd es).length:=by
 rw [BitVec.getLsbD_and,Bool.and_eq_true] at hi;exact all_rows h i hi.2
theorem MReach_ok{va:Value}{rows:List (BitVec 64)}(hl:Sl κ I va rows)(f w:BitVec 64)(hw:∀i:Nat,w.getLsbD i=true→i<rows.length)(hT:TabRd κ I 0 tzCells) :
    CallS Tryz.prog κ 197 [va,U64 (f),U64 (w)] I (fun r J=>r=U64 (reachB rows f w)∧I=J):=by
 refine Ce3 Tryz.func197 rfl rfl ?_
 refine Ah (Ga rfl (Af (Ah (Gm rfl (Gm rfl (Gr (Cr (a:=f) (b:=w) rfl rfl) (Ga rfl (Af (Ap (Ah (Gm rfl (Ga rfl (Af (A3 (Bv (σ:=(BitVec 64)×(BitVec 64)) (fun s=>([(0,va),(1,U64 (s.2)),(2,U64 (w)),(7,U64 (s.1))]:Env)) (fun s=>I) (fun s=>(ReachI rows f w s.1 s.2)) (fun s=>reachM w s.1 s.2) (f &&& w,f &&& w) (show (ReachI rows f w (f &&& w:BitVec 64) (f &&& w:BitVec 64)) from .begin) (Ab rfl (Ab (C1 rfl (by first|rfl|simp)) (Ab rfl (Ab (C1 rfl (by first|rfl|simp)) Bj)))) (show Fit κ _ (I) from Ay) ?_)))))))))))))))
 rintro ⟨front,frm⟩ hp
 dsimp only at hp ⊢
 have hR:=hp
 refine Ap (Ah (Gm rfl (Gr (Runs.neB (a:=front) (b:=0#64) rfl rfl) (Af (A9 rfl (fun c15=>?_) (fun c15=>?_))))))
 ·refine A1 (Ai (A3 (Ah (Gm rfl (Gc0 (Al call238 rfl rfl (Least_ok front (B0 hT Ax))) ?_)))))
  refine Ga rfl ?_
  have htz:=tzB_range c15
  have hbd:=hw _ (hR.sub _ (hR.fsub _ htz.2.2))
  exact Af (Ah (Gm rfl (Gm rfl (Gr (Runs.subB (a:=front) (b:=1#64) rfl rfl) (Gr (Cr (a:=front) (b:=front - (1#64)) rfl rfl) (Ga rfl (Af (Ar (S5 7 8 0 1 2 rfl rfl rfl rfl rfl) (Ah (Gm rfl (Gm rfl (Gr (A0 (α:=(BitVec 64)) (xs:=rows) B6 ty175 rfl rfl (Bi hl) om om) (Gr (Dg (α:=(BitVec 64)) (xs:=rows) (u:=U64 ((at_ rows (tzB front)))) ty175 rfl (Bi hl) om om rfl) (Gm rfl (Gr (Cr (a:=(at_ rows (tzB front))) (b:=w) rfl rfl) (Gm rfl (Gr (D6 (a:=(at_ rows (tzB front)) &&& w) (b:=frm) rfl rfl) (Ga rfl (Af (Ar (S5 9 7 0 1 2 rfl rfl rfl rfl rfl) (Ah (Gm rfl (Gm rfl (Gr (Eg (a:=frm) (b:=((at_ rows (tzB front)) &&& w) &&& ~~~frm) rfl rfl) (Ga rfl (Af (A2 (Gm rfl (Gm rfl (Gr (Eg (a:=front &&& (front - (1#64))) (b:=((at_ rows (tzB front)) &&& w) &&& ~~~frm) rfl rfl) (Ga rfl (Bh (Aj (B7 (((front &&& (front - (1#64))) ||| (((at_ rows (tzB front)) &&& w) &&& ~~~frm)),(frm ||| (((at_ rows (tzB front)) &&& w) &&& ~~~frm))) (by dsimp only;exact (hR.step c15).1) (hlt:=by (try dsimp only);exact (hR.step c15).2)))))))))))))))))))))))))))))))))))
 ·refine Bs (Am (Am (A7 (Ai (Ah (Gm rfl (Ga rfl (Af (Az ?_)))))))))
  have hz:front=0#64:=Classical.not_not.1 c15
  subst hz
  exact A4 rfl rfl (I) Ax ⟨by rw [hR.eq],rfl⟩
def rchG(nd:Int)(es:List Pt)(frm set:List Int):List Int:=if checkG nd es≠0 then [] else listB (reachB (rowsB nd es) (maskB frm) (maskB set &&& allB nd))
theorem CReach_ok{nd:Int}{va vb vd:Value}{es:List Pt}{frm set:List Int}(hl:Sl κ I va es)(hf:Sl κ I vb frm)(hs:Sl κ I vd set)(hT:TabRd κ I 0 tzCells) :
    CallS Tryz.prog κ 110 [.agg #[I64 (nd),va],vb,vd] I (fun r J=>∃a c,r = .tuple #[.slice a (rchG nd es frm set).length c,I64 (checkG nd es)]∧J=vc 3 (.slice a (rchG nd es frm set).length c) (rchG nd es frm set)::I):=by
 refine Ce3 Tryz.func110 rfl rfl ?_
 refine Ah (Ge1 (Bc (cs:=[_,_]) rfl rfl rfl) fun b1=>Ga rfl (Ga rfl (Af (Ap (Ah (Gl2 ty48 ?_))))))
 refine Gc0 (Al call83 rfl rfl (CheckGen_ok (Bi hl))) ?_
 refine Ga rfl (Af (Ah (Gm rfl (Gr (Br rfl rfl) (Af (A9 rfl (fun c12=>?_) (fun c12=>?_)))))))
 ·refine Ah (Gm rfl (Ga rfl (Ga rfl (Af (Ar (S2 7 6 rfl rfl) (Az (Ak ?_)))))))
  have hX:(rchG nd es frm set)=[]:=if_pos c12
  exact Ct rfl rfl rfl (vc 3 (.slice none (rchG nd es frm set).length 0) (rchG nd es frm set)::I) (by rw [hX];exact Cs (show Fit κ _ I from Ax) (Bx (α:=Int) _ _)) ⟨none,0,by rw [hX];rfl,rfl⟩
 ·refine A1 (Ai (Ap (Bd mixed (Bl (blk b1 [I64 (nd),va] 48::I) 14 (Dr 0 rfl (Bo (vs:=[_,_]) ty48) ?_)))))
  refine Dr 2 rfl (Ad rfl) (Dr 4 rfl (Ad rfl) (Dr 6 rfl (Ac fld48_0 rfl) (Dr 7 rfl (Av ty3) ?_)))
  refine Ds1 1 (Se rfl (Al call198 rfl rfl (MRows_ok (nd:=nd) (Bi hl))) ?_)
  rintro _ _ ⟨_,_,⟨ad2,cp3,rfl,rfl⟩,rfl,rfl⟩
  refine ⟨Ay,?_⟩
  have hrwad2:=rowsB_len nd es
  refine Ds1 3 (Sc0 rfl (Al call199 rfl rfl (MaskOf_ok (Bi hf))) ?_)
  refine Ds1 5 (Sc0 rfl (Al call199 rfl rfl (MaskOf_ok (Bi hs))) ?_)
  refine Ds1 8 (Sc0 rfl (Al call200 rfl rfl (MaskAll_ok nd)) ?_)
  refine Dr 9 rfl (Cr (a:=maskB set) (b:=allB nd) rfl rfl) (Ds1 10 (Se rfl (Al call197 rfl rfl (MReach_ok Bf (maskB frm) ((maskB set) &&& (allB nd)) (and_all_rows _ (checkG_ok.1 (Classical.not_not.1 c12)).rng) (B0 hT Ax))) ?_))
  rintro _ _ ⟨_,_,⟨rfl,rfl⟩,rfl,rfl⟩
  refine ⟨Ay,?_⟩
  refine Ds1 11 (Sc2 rfl (Al call171 rfl rfl (MList_ok (reachB (rowsB nd es) (maskB frm) ((maskB set) &&& (allB nd))) (B0 hT Ax))) fun ad4 cp5=>?_)
  refine Dr 12 rfl (A6 rfl) (Dr 13 rfl (A6 rfl) (Dz (Ai (Ar (S2 7 6 rfl rfl) (Az ?_)))))
  have hX:(rchG nd es frm set)=_:=if_neg c12
  have hz:checkG nd es=0:=Classical.not_not.1 c12
  exact Ct rfl rfl rfl (vc 3 (.slice ad4 (rchG nd es frm set).length cp5) (rchG nd es frm set)::I) (by rw [hX];exact Ay) ⟨ad4,cp5,by rw [hX,hz],rfl⟩
end Go.Sl
namespace Go.Sl
section
variable {P:Program}{κ:Ctx}{N:Frm}{Q:Exit→Act→World→Prop}{L:Env}{I:List Item}
theorem wp_scope_ghost{c rest:Code}{a:Act}{w:World}(l:Nat){σ:Type}(R:σ→Act→World→Prop)(μ:σ→Nat)(hf:findLabel c l=some rest)
  (first:c.wp P (Exit.jump l (fun a w=>∃s,R s a w) Q) a w)
  (pass:∀s a w,R s a w→rest.wp P (Exit.jump l (fun a' w'=>∃s',R s' a' w'∧μ s'<μ s) Q) a w):(Code.scope c).wp P Q a w:=by
 intro b k cs
 have hg:gotoIn l (.inScope c::k)=some (.code rest :: .inScope c::k):=by simp [gotoIn,hf]
 have key:∀n s a w,μ s=n→R s a w→∃e a' w',Q e a' w'∧Arrives P (lone (b.at a (.code rest :: .inScope c::k)) cs w) b k cs e a' w':=by
  intro n
  induction n using Nat.strongRecOn with
  |_ n ih=>
   intro s a w hn hR
   obtain ⟨e,a₁,w₁,hq,harr⟩:=pass s a w hR b (.inScope c::k) cs
   cases e with
   |normal=>exact ⟨.normal,a₁,w₁,hq,Steps.trans harr (.one step_inScope)⟩
   |exit id=>exact ⟨.exit id,a₁,w₁,hq,fun k' hk=>harr k' (by simp [exitTo,hk])⟩
   |goto l'=>
    obtain ⟨rfl,s',hR',hlt⟩:=hq
    obtain ⟨e₂,a₂,w₂,hq₂,harr₂⟩:=ih _ (by omega) s' a₁ w₁ rfl hR'
    exact ⟨e₂,a₂,w₂,hq₂,.of_steps (harr _ hg) harr₂⟩
   |ret=>exact ⟨_,a₁,w₁,hq,harr⟩
   |panic ch=>exact ⟨_,a₁,w₁,hq,harr⟩
   |outgrown=>exact ⟨_,a₁,w₁,hq,harr⟩
 obtain ⟨e,a₁,w₁,hq,harr⟩:=first b (.inScope c::k) cs
 cases e with
 |normal=>exact ⟨.normal,a₁,w₁,hq,.head step_scope (Steps.trans harr (.one step_inScope))⟩
 |exit id=>exact ⟨.exit id,a₁,w₁,hq,fun k' hk=> .head step_scope (harr k' (by simp [exitTo,hk]))⟩
 |goto l'=>
  obtain ⟨rfl,s,hR⟩:=hq
  obtain ⟨e₂,a₂,w₂,hq₂,harr₂⟩:=key _ s a₁ w₁ rfl hR
  exact ⟨e₂,a₂,w₂,hq₂,.of_steps (.head step_scope (harr _ hg)) harr₂⟩
 |ret=>exact ⟨_,a₁,w₁,hq,.of_steps (.one step_scope) harr⟩
 |panic ch=>exact ⟨_,a₁,w₁,hq,.of_steps (.one step_scope) harr⟩
 |outgrown=>exact ⟨_,a₁,w₁,hq,.of_steps (.one step_scope) harr⟩
theorem V.jump_ret{l:Nat}{K:Act→World→Prop}(h:V κ N Q .ret L I):V κ N (Exit.jump l K Q) .ret L I:=h
end
end Go.Sl
namespace Go.Sl
section
variable {P:Program}{κ:Ctx}{N:Frm}{Q:Exit→Act→World→Prop}{L:Env}{I:List Item}
theorem W.scope0{c rest:Code}{l:Nat}(hf:findLabel c l=some rest)(h:W P κ N c (Exit.jump l (fun _ _=>∃s:Unit,False) Q) L I):W P κ N (.scope c) Q L I:=fun a w ha hs=>
 wp_scope_ghost l (fun (_:Unit) _ _=>False) (fun _=>0) hf (h a w ha hs) fun _ _ _ hR=>hR.elim
theorem W.label{l:Nat}(h:V κ N Q .normal L I):W P κ N (.label l) Q L I:=fun a w ha hs=>wp_label (h a w ha hs)
end
end Go.Sl
namespace Go.Sl
open Go.Proofs
set_option maxRecDepth 4000
def coreR0(nd:Int)(es:List Pt):List (Int×Nat):=coreR (rowsB nd es) (allB ((rowsB nd es).length:Int)) 0
def coreL(nd:Int)(es:List Pt):List Int:=numL (rowsB nd es).length (coreR0 nd es)
def coreO(nd:Int)(es:List Pt):List Int:=ordL (coreR0 nd es)
def coreN(nd:Int)(es:List Pt):List Int:=if checkG nd es≠0 then [] else coreL nd es
def coreK(nd:Int)(es:List Pt)(k:Int):List Int:=sideL (coreN nd es).length fun v=>decide (k≤at_ (coreN nd es) v)
theorem mem_allN{n:Nat}(h:n≤64){u:Int}:u∈listB (allB (n:Int))↔0≤u∧u<n:=by
 constructor
 ·intro hu
  have hr:=listB_lt hu
  rw [mem_listB,getLsb_allB om om om,decide_eq_true_eq] at hu
  omega
 ·intro hu
  rw [mem_listB,getLsb_allB om om om,decide_eq_true_eq]
  omega
theorem coreL_len(nd:Int)(es:List Pt):(coreL nd es).length=(rowsB nd es).length:=numL_len _ _
theorem ordL_len(l:List (Int×Nat)):(ordL l).length=l.length:=List.length_map ..
theorem bit_sh{v:Int}(h0:0≤v)(h1:v<64):bitB v=1#64 <<< v.toNat:=by unfold bitB;rw [if_neg om]
theorem deg_full{n:Nat}{rows:List (BitVec 64)}(h:SymB n rows){k:Int}(h0:0≤k)(h1:k<n):onesB (at_ rows k)=((degB rows (allB (n:Int)) k:Nat):Int):=by
 rw [ones_pop]
 unfold degB
 congr 1
 refine ((List.perm_ext_iff_of_nodup (listB_nodup _) (listB_nodup _)).2 fun u=>?_).length_eq
 rw [mem_andB]
 refine ⟨fun hu=>⟨hu,(mem_allN h.le).2 ⟨(listB_lt hu).1,h.lt k u h0 h1 hu⟩⟩,fun hu=>hu.1⟩
theorem rows_sym{nd:Int}{es:List Pt}(hG:GrOk nd es):SymB (rowsB nd es).length (rowsB nd es):=by
 have h:=hG.rows.symB hG
 have e:=h.len
 rw [←e] at h;exact h
theorem core_step{rows:List (BitVec 64)}{left:BitVec 64}{kk dd:Nat}{v:Int}{done:List (Int×Nat)}{all:List (Int×Nat)}(hc:done++coreR rows left kk=all)(hT:Takes rows left v)(hd:degB rows left v=dd) :
  (done++[(v,max kk dd)])++coreR rows (left &&& ~~~(1#64 <<< v.toNat)) (max kk dd)=all:=by
 rw [←hc,coreR_step hT,hd,List.append_assoc];rfl
theorem cnt_allN{n:Nat}(h:n≤64):(listB (allB (n:Int))).length=n:=by
 have hp:(listB (allB (n:Int))).Perm ((List.range n).map fun (i:Nat)=>(i:Int)):=(List.perm_ext_iff_of_nodup (listB_nodup _) (by
  exact List.Pairwise.map _ (fun a b h=>by omega) (List.nodup_range (n:=n)))).2 fun u=>by
  rw [mem_allN h,List.mem_map]
  constructor
  ·intro hu;exact ⟨u.toNat,List.mem_range.2 om,by omega⟩
  ·rintro ⟨i,hi,rfl⟩;have:=List.mem_range.1 hi;omega
 have:=hp.length_eq
 rwa [List.length_map,List.length_range] at this
set_option maxHeartbeats 2000000 in
theorem CPeel_ok{κ:Ctx}{I:List Item}{nd:Int}{va:Value}{es:List Pt}(hl:Sl κ I va es)(hG:GrOk nd es)(hT:TabRd κ I 0 tzCells) :
    CallS Tryz.prog κ 175 [.agg #[I64 (nd),va]] I (fun r J=>∃a c a' c',r = .tuple #[.slice a (coreO nd es).length c,.slice a' (coreL nd es).length c']∧J=vc 3 (.slice a (coreO nd es).length c) (coreO nd es)::vc 3 (.slice a' (coreL nd es).length c') (coreL nd es)::I):=by
 have hS:=rows_sym hG
 have hS64:=hS.le
 refine Ce1 Tryz.func175 rfl rfl ?_
 refine Ah (Ge1 (Bc (cs:=[_,_]) rfl rfl rfl) fun b1=>Ga rfl (Ga rfl (Af (W.scope0 (l:=0) rfl ?_))))
 refine Ah (Gl2 ty48 ?_)
 refine G.e (Al call198 rfl rfl (MRows_ok (nd:=nd) (Bi hl))) ?_
 rintro _ _ ⟨_,_,⟨ad2,cp3,rfl,rfl⟩,rfl,rfl⟩
 have hrwad2:=rowsB_len nd es
 refine Ga rfl (Af (Ah (Ge1 (A8 ty264 rfl) fun b4=>?_)))
 show G Tryz.prog κ _ _ _ _ ([(5,.pointer (some ⟨b4,0,none⟩)),(4,.slice ad2 (rowsB nd es).length cp3),(16,.slice ad2 (rowsB nd es).length cp3),(15,.agg #[I64 (nd),va]),(3,.slice none 0 0),(2,.slice none 0 0),(1,.pointer (some ⟨b1,0,none⟩)),(0,.agg #[I64 (nd),va])]:Env) (blk b4 (cells (List.replicate 64 (0#64):List (BitVec 64))) 264::vc 175 (.slice ad2 (rowsB nd es).length cp3) (rowsB nd es)::blk b1 [I64 (nd),va] 48::I)
 refine Af (Ah (Gm rfl (Gr (Bq B6 rfl) (Ge2 (Cj (α:=Int) (n:=(rowsB nd es).length) Aa ty3 rfl rfl rfl om om dc rfl) fun ad5 cp6=>?_))))
 refine Ga rfl (Af (Ap (Ah (Gm rfl (Gr (Bq B6 rfl) (Gm rfl (Af (Ar (S7 22 21 20 6 5 4 2 rfl rfl rfl rfl rfl rfl rfl) (A3 (Bv (σ:=Nat×(List Int)×(List (BitVec 64))) (fun s=>([(2,.slice none 0 0),(4,.slice ad2 (rowsB nd es).length cp3),(5,.pointer (some ⟨b4,0,none⟩)),(6,.slice ad5 (List.replicate ((rowsB nd es).length) (default:Int)).length cp6),(20,.slice ad2 (rowsB nd es).length cp3),(21,I64 ((((rowsB nd es).length:Nat):Int))),(22,I64 (((s.1:Nat):Int)))]:Env)) (fun s=>vc 3 (.slice ad5 (List.replicate ((rowsB nd es).length) (default:Int)).length cp6) (s.2.1)::blk b4 (cells (s.2.2:List (BitVec 64))) 264::vc 175 (.slice ad2 (rowsB nd es).length cp3) (rowsB nd es)::blk b1 [I64 (nd),va] 48::I) (fun s=>(s.1≤(rowsB nd es).length)∧(BkOk (rowsB nd es).length (fun u=>0≤u∧u<((s.1:Nat):Int)) (degB (rowsB nd es) (allB ((rowsB nd es).length:Int))) s.2.1 s.2.2)) (fun s=>(rowsB nd es).length - s.1) (0,List.replicate ((rowsB nd es).length) (default:Int),List.replicate 64 (0#64)) (show ((0:Nat)≤(rowsB nd es).length)∧(BkOk (rowsB nd es).length (fun u=>0≤u∧u<(((0:Nat):Nat):Int)) (degB (rowsB nd es) (allB ((rowsB nd es).length:Int))) (List.replicate ((rowsB nd es).length) (default:Int):List Int) (List.replicate 64 (0#64):List (BitVec 64))) from ⟨om,(BkOk.start _ _)⟩) (Ab rfl (Ab rfl (Ab rfl (Ab rfl (Ab rfl (Ab rfl (Ab Cc Bj))))))) (show Fit κ _ (vc 3 (.slice ad5 (List.replicate ((rowsB nd es).length) (default:Int)).length cp6) ((List.replicate ((rowsB nd es).length) (default:Int)))::blk b4 (cells ((List.replicate 64 (0#64)):List (BitVec 64))) 264::vc 175 (.slice ad2 (rowsB nd es).length cp3) (rowsB nd es)::blk b1 [I64 (nd),va] 48::I) from Ay) ?_))))))))))
 rintro ⟨k,dgs,bks⟩ hp
 dsimp only at hp ⊢
 obtain ⟨hk,hB⟩:=hp
 have hdl:=hB.dlen
 have hbl:=hB.blen
 have hon:k<(rowsB nd es).length→onesB (at_ (rowsB nd es) (k:Int))=((degB (rowsB nd es) (allB ((rowsB nd es).length:Int)) (k:Int):Nat):Int):=fun h=>deg_full hS om om
 have hd64:k<(rowsB nd es).length→((degB (rowsB nd es) (allB ((rowsB nd es).length:Int)) (k:Int):Nat):Int)<64:=fun h=>by have:=degB_lt hS (allB ((rowsB nd es).length:Int)) (v:=(k:Int)) om om;omega
 refine Ah (Gr (Bb rfl rfl) (Af (Ap (A9 rfl (fun c23=>?_) (fun c23=>?_)))))
 ·refine A1 (Ai (Ap (A3 (Ah (Gm rfl (Gr (A0 (α:=(BitVec 64)) (xs:=rowsB nd es) B6 ty175 rfl rfl Bf om oo) (Gr (Dg (α:=(BitVec 64)) (xs:=rowsB nd es) (u:=U64 ((at_ (rowsB nd es) (k:Int)))) ty175 rfl Bf om oo rfl) (Ga rfl (Ga rfl (Af (Ah (Gm rfl (Gm rfl (Gm rfl (Gc0 (Al call219 rfl rfl (MCount_ok (at_ (rowsB nd es) (k:Int)))) ?_)))))))))))))))
  refine Gr (A0 (α:=Int) (xs:=dgs) Aa ty3 rfl rfl Bf om oo) (Ge0 (Cw (α:=Int) (xs:=dgs) (e:=3) (new:=onesB (at_ (rowsB nd es) (k:Int))) ty3 rfl rfl rfl om oo am) ?_)
  have hon1:=hon om
  have hd641:=hd64 om
  have hset:at_ (List.set dgs ((k:Int)).toNat (onesB (at_ (rowsB nd es) (k:Int)))) (k:Int)=((degB (rowsB nd es) (allB ((rowsB nd es).length:Int)) (k:Int):Nat):Int):=by rw [C6 _ _ _ _ om om om,if_pos rfl,hon1]
  refine Af (Ar (S8 7 2 4 5 6 20 21 22 rfl rfl rfl rfl rfl rfl rfl rfl) (Bd mixed (Bl (vc 3 (.slice ad5 (List.replicate ((rowsB nd es).length) (default:Int)).length cp6) (List.set dgs ((k:Int)).toNat (onesB (at_ (rowsB nd es) (k:Int))))::blk b4 (cells (bks:List (BitVec 64))) 264::vc 175 (.slice ad2 (rowsB nd es).length cp3) (rowsB nd es)::blk b1 [I64 (nd),va] 48::I) 10 (Dr 0 rfl (Ad rfl) (Dr 1 rfl (Ad rfl) (Dr 2 rfl (A0 (α:=Int) (xs:=List.set dgs ((k:Int)).toNat (onesB (at_ (rowsB nd es) (k:Int)))) Aa ty3 rfl rfl Bf om oo) (Dr 3 rfl (Bp (xs:=List.set dgs ((k:Int)).toNat (onesB (at_ (rowsB nd es) (k:Int)))) ty3 rfl Bf om oo) (Dr 4 rfl (Cd Ci ty175 rfl rfl om oo) (Dr 5 rfl (El (xs:=bks) ty175 rfl (Ck mm) om oo) (Dr 6 rfl (Ad rfl) (Ds1 7 (Se rfl (Al call237 rfl rfl (Bit_ok (k:Int))) ?_))))))))))))
  rintro _ _ ⟨_,_,⟨rfl,rfl⟩,rfl,rfl⟩
  refine ⟨Ax,?_⟩
  refine Dr 8 rfl (Eg (a:=at_ bks (at_ (List.set dgs ((k:Int)).toNat (onesB (at_ (rowsB nd es) (k:Int)))) (k:Int))) (b:=bitB (k:Int)) rfl rfl) (Dr 9 rfl (Cd Ci ty175 rfl rfl om oo) (Cy kr ?_))
  refine Ae 10 rfl (Eff.setAU (xs:=bks) (i:=at_ (List.set dgs ((k:Int)).toNat (onesB (at_ (rowsB nd es) (k:Int)))) (k:Int)) (n:=(at_ bks (at_ (List.set dgs ((k:Int)).toNat (onesB (at_ (rowsB nd es) (k:Int)))) (k:Int))) ||| (bitB (k:Int))) ty175 rfl rfl rfl om oo am) ?_
  rintro _ _ ⟨rfl,rfl⟩
  refine Cz kr ?_
  exact Aj (Ai (Ar (S7 2 4 5 6 20 21 22 rfl rfl rfl rfl rfl rfl rfl) (A2 (Gr (Rad rfl rfl) (Gm rfl (Bh (B7 ((k+1),(List.set dgs ((k:Int)).toNat (onesB (at_ (rowsB nd es) (k:Int)))),(List.set bks (at_ (List.set dgs ((k:Int)).toNat (onesB (at_ (rowsB nd es) (k:Int)))) (k:Int)).toNat ((at_ bks (at_ (List.set dgs ((k:Int)).toNat (onesB (at_ (rowsB nd es) (k:Int)))) (k:Int))) ||| (bitB (k:Int))))) (by dsimp only;exact ⟨om,(by have hN:=hB.push (S':=fun u=>0≤u∧u<((k+1:Nat):Int)) (v:=(k:Int)) (c:=((degB (rowsB nd es) (allB ((rowsB nd es).length:Int)) (k:Int):Nat):Int)) om om om (fun u=>by constructor<;>intro h<;>omega) (fun h=>by omega) rfl (hd64 om);rw [hset,hon om,bit_sh om om];exact hN)⟩))))))))
 ·refine Bs (Am (Am (A7 (Ai (Ah (Gm rfl (Gr (Bq B6 rfl) (Ge2 (Cj (α:=Int) (n:=(rowsB nd es).length) Aa ty3 rfl rfl rfl om om dc rfl) fun ad7 cp8=>?_))))))))
  refine Ga rfl (Af (Ah (Gm rfl (Gr (Bq B6 rfl) (Gc0 (Al call200 rfl rfl (MaskAll_ok (((rowsB nd es).length:Nat):Int))) ?_)))))
  refine Ga rfl (Af (Ar (S6 9 3 2 4 5 6 rfl rfl rfl rfl rfl rfl) (Ah (Ga rfl (Af (Ap (W.label ?_)))))))
  refine Ai (Ap (A3 (Bv (σ:=(List (Int×Nat))×(BitVec 64)×Nat×(List Int)×(List (BitVec 64))×(Option Addr)×Nat) (fun s=>([(2,.slice s.2.2.2.2.2.1 (ordL s.1).length s.2.2.2.2.2.2),(3,.slice ad7 (List.replicate ((rowsB nd es).length) (default:Int)).length cp8),(4,.slice ad2 (rowsB nd es).length cp3),(5,.pointer (some ⟨b4,0,none⟩)),(6,.slice ad5 (List.replicate ((rowsB nd es).length) (default:Int)).length cp6),(9,U64 (s.2.1)),(10,I64 (((s.2.2.1:Nat):Int)))]:Env)) (fun s=>vc 3 (.slice s.2.2.2.2.2.1 (ordL s.1).length s.2.2.2.2.2.2) (ordL s.1)::vc 3 (.slice ad7 (List.replicate ((rowsB nd es).length) (default:Int)).length cp8) (numL (rowsB nd es).length s.1)::vc 3 (.slice ad5 (List.replicate ((rowsB nd es).length) (default:Int)).length cp6) (s.2.2.2.1)::blk b4 (cells (s.2.2.2.2.1:List (BitVec 64))) 264::vc 175 (.slice ad2 (rowsB nd es).length cp3) (rowsB nd es)::blk b1 [I64 (nd),va] 48::I) (fun s=>(s.1++coreR (rowsB nd es) s.2.1 s.2.2.1=coreR0 nd es)∧(BkOk (rowsB nd es).length (fun u=>u∈listB s.2.1) (degB (rowsB nd es) s.2.1) s.2.2.2.1 s.2.2.2.2.1)∧(s.1.length+(listB s.2.1).length=(rowsB nd es).length)∧(s.2.2.1≤63)) (fun s=>(listB s.2.1).length) ([],(allB ((rowsB nd es).length:Int)),0,dgs,bks,none,0) (show (([]:List (Int×Nat))++coreR (rowsB nd es) ((allB ((rowsB nd es).length:Int)):BitVec 64) (0:Nat)=coreR0 nd es)∧(BkOk (rowsB nd es).length (fun u=>u∈listB ((allB ((rowsB nd es).length:Int)):BitVec 64)) (degB (rowsB nd es) ((allB ((rowsB nd es).length:Int)):BitVec 64)) (dgs:List Int) (bks:List (BitVec 64)))∧(([]:List (Int×Nat)).length+(listB ((allB ((rowsB nd es).length:Int)):BitVec 64)).length=(rowsB nd es).length)∧((0:Nat)≤63) from ⟨rfl,(hB.congr (fun u=>(mem_allN hS.le).trans (by constructor<;>intro h<;>omega)) (fun u _=>rfl)),(by have:(listB (allB ((rowsB nd es).length:Int))).length=(rowsB nd es).length:=cnt_allN hS.le;simp only [List.length_nil];omega),om⟩) (Ab (C1 rfl (by first|rfl|(rw [ordL_snoc])|simp)) (Ab rfl (Ab rfl (Ab rfl (Ab rfl (Ab (C1 rfl (by first|rfl|(rw [ordL_snoc])|simp)) (Ab Cc Bj))))))) (show Fit κ _ (vc 3 (.slice (none) (ordL ([])).length (0)) (ordL ([]))::vc 3 (.slice ad7 (List.replicate ((rowsB nd es).length) (default:Int)).length cp8) (numL (rowsB nd es).length ([]))::vc 3 (.slice ad5 (List.replicate ((rowsB nd es).length) (default:Int)).length cp6) ((dgs))::blk b4 (cells ((bks):List (BitVec 64))) 264::vc 175 (.slice ad2 (rowsB nd es).length cp3) (rowsB nd es)::blk b1 [I64 (nd),va] 48::I) from (Cs (Bx (α:=Int) _ _) Bt)) ?_)))
  rintro ⟨done,left,kk,dgs2,bks2,ao,co⟩ hp
  dsimp only at hp ⊢
  obtain ⟨hc,hB2,hln,hkk⟩:=hp
  have hdl2:=hB2.dlen
  have hbl2:=hB2.blen
  have hold:=ordL_len done
  have hnl:=numL_len (rowsB nd es).length done
  have hdg64:∀u∈listB left,degB (rowsB nd es) left u<64:=fun u hu=>by have hr:=hB2.rng u hu;have:=degB_lt hS left hr.1 hr.2;omega
  refine Ap (Ah (Gm rfl (Gr (Runs.neB (a:=left) (b:=0#64) rfl rfl) (Af (A9 rfl (fun c50=>?_) (fun c50=>?_))))))
  ·refine A1 (Ai (A3 (Ah (Gm rfl (Af (A3 (Bv (σ:=Nat) (fun s=>([(2,.slice ao (ordL done).length co),(3,.slice ad7 (List.replicate ((rowsB nd es).length) (default:Int)).length cp8),(4,.slice ad2 (rowsB nd es).length cp3),(5,.pointer (some ⟨b4,0,none⟩)),(6,.slice ad5 (List.replicate ((rowsB nd es).length) (default:Int)).length cp6),(9,U64 (left)),(10,I64 ((kk:Int))),(51,I64 (((s:Nat):Int)))]:Env)) (fun s=>vc 3 (.slice ao (ordL done).length co) (ordL done)::vc 3 (.slice ad7 (List.replicate ((rowsB nd es).length) (default:Int)).length cp8) (numL (rowsB nd es).length done)::vc 3 (.slice ad5 (List.replicate ((rowsB nd es).length) (default:Int)).length cp6) (dgs2)::blk b4 (cells (bks2:List (BitVec 64))) 264::vc 175 (.slice ad2 (rowsB nd es).length cp3) (rowsB nd es)::blk b1 [I64 (nd),va] 48::I) (fun s=>(s≤64)∧(∀c:Int,0≤c→c<((s:Nat):Int)→at_ bks2 c=0#64)) (fun s=>64 - s) (0) (show ((0:Nat)≤64)∧(∀c:Int,0≤c→c<(((0:Nat):Nat):Int)→at_ bks2 c=0#64) from ⟨om,(fun c h1 h2=>by omega)⟩) (Ab rfl (Ab rfl (Ab rfl (Ab rfl (Ab rfl (Ab rfl (Ab rfl (Ab Cc Bj)))))))) (show Fit κ _ (vc 3 (.slice ao (ordL done).length co) (ordL done)::vc 3 (.slice ad7 (List.replicate ((rowsB nd es).length) (default:Int)).length cp8) (numL (rowsB nd es).length done)::vc 3 (.slice ad5 (List.replicate ((rowsB nd es).length) (default:Int)).length cp6) (dgs2)::blk b4 (cells (bks2:List (BitVec 64))) 264::vc 175 (.slice ad2 (rowsB nd es).length cp3) (rowsB nd es)::blk b1 [I64 (nd),va] 48::I) from Ay) ?_)))))))
   rintro dd hp
   obtain ⟨hdd,hz⟩:=hp
   refine Ah (Gr (Bb rfl rfl) (Af (Ap (A9 rfl (fun c52=>?_) (fun c52=>?_)))))
   ·refine A1 (Ai (Ap (A3 (Ah (Gm rfl (Ga rfl (Af (Ap (Ah (Gm rfl (Gr (Cd Ci ty175 rfl rfl om oo) (Gr (El (xs:=bks2) ty175 rfl (Ck mm) om oo) (Gr (Runs.eqB (a:=at_ bks2 (dd:Int)) (b:=0#64) rfl rfl) (Af (Ar (S10 57 11 2 3 4 5 6 9 10 51 rfl rfl rfl rfl rfl rfl rfl rfl rfl rfl) (A9 rfl (fun c57=>?_) (fun c57=>?_)))))))))))))))))
    ·exact Bs (Am (A7 (Ai (A2 (Gr (Rad rfl rfl) (Gm rfl (Bh (B7 ((dd+1)) ⟨om,(fun c h1 h2=>by by_cases e:c=(dd:Int);(· rw [e];assumption);(· exact hz c h1 om))⟩))))))))
    ·refine A1 (Ai (Ah (Gm rfl (Gr (Cd Ci ty175 rfl rfl om oo) (Gr (El (xs:=bks2) ty175 rfl (Ck mm) om oo) (Gc0 (Al call238 rfl rfl (Least_ok (at_ bks2 (dd:Int)) (B0 hT Ax))) ?_))))))
     have hTT:=hB2.takes (d:=(dd:Int)) om om c57 hz hdg64
     generalize hvE:tzB (at_ bks2 (dd:Int))=v at hTT ⊢
     obtain ⟨hTk,hdv⟩:=hTT
     have hvm:=hTk.mem
     have hvr:=hB2.rng v hvm
     refine Ga rfl (Af (Ar (S9 12 11 2 3 4 5 6 9 10 rfl rfl rfl rfl rfl rfl rfl rfl rfl) (Ah (Gm rfl (Gm rfl (Gr (Ei rfl rfl) ?_))))))
     have hmx:(if (kk:Int)<(dd:Int) then (dd:Int) else (kk:Int))=(((max kk dd):Nat):Int):=by split<;>omega
     rw [hmx]
     refine Ga rfl (Af (Ar (S9 10 12 11 2 3 4 5 6 9 rfl rfl rfl rfl rfl rfl rfl rfl rfl) (Ah (Gm rfl (Gm rfl (Gm rfl (Gr (A0 (α:=Int) (xs:=numL (rowsB nd es).length done) Aa ty3 rfl rfl Bf om oo) (Ge0 (Cw (α:=Int) (xs:=numL (rowsB nd es).length done) (e:=3) (new:=(((max kk dd):Nat):Int)) ty3 rfl rfl rfl om oo am) ?_))))))))
     refine Af (Ah (Gm rfl (Gm rfl (Ge1 (B8 (α:=Int) (cs:=[_]) (xs:=[v]) Aa ty3 rfl rfl dc dc rfl rfl rfl rfl) fun ad9=>?_))))
     refine Ge2 (Ch (α:=Int) (e:=3) (xs:=ordL done) (ys:=([v]:List Int)) Aa ty3 rfl rfl rfl mm Bf lcn dc rfl (fun _ _=>am)) fun ad10 cp11=>?_
     refine Ga rfl (Af (Ar (S9 2 10 12 11 3 4 5 6 9 rfl rfl rfl rfl rfl rfl rfl rfl rfl) (Ah (Gm rfl (Gm rfl (G.e (Al call237 rfl rfl (Bit_ok v)) ?_))))))
     rintro _ _ ⟨_,_,⟨rfl,rfl⟩,rfl,rfl⟩
     rw [show bitB v=1#64 <<< (v).toNat from bit_sh om om]
     refine Gr (D6 (a:=left) (b:=1#64 <<< (v).toNat) rfl rfl) (Ga rfl (Af (Ar (S9 9 2 10 12 11 3 4 5 6 rfl rfl rfl rfl rfl rfl rfl rfl rfl) (Ap (Bd mixed (Bl (vc 3 (.slice ad9 1 1) (([v]:List Int))::vc 3 (.slice ad10 ((ordL done)++([v]:List Int)).length cp11) ((ordL done)++([v]:List Int))::vc 3 (.slice ad7 (List.replicate ((rowsB nd es).length) (default:Int)).length cp8) (List.set (numL (rowsB nd es).length done) (v).toNat ((((max kk dd):Nat):Int)))::vc 3 (.slice ad5 (List.replicate ((rowsB nd es).length) (default:Int)).length cp6) (dgs2)::blk b4 (cells (bks2:List (BitVec 64))) 264::vc 175 (.slice ad2 (rowsB nd es).length cp3) (rowsB nd es)::blk b1 [I64 (nd),va] 48::I) 7 (Dr 0 rfl (Ad rfl) (Dr 1 rfl (Cd Ci ty175 rfl rfl om oo) (Dr 2 rfl (El (xs:=bks2) ty175 rfl (Ck mm) om oo) (Dr 3 rfl (Ad rfl) (Ds1 4 (Se rfl (Al call237 rfl rfl (Bit_ok v)) ?_))))))))))))
     rintro _ _ ⟨_,_,⟨rfl,rfl⟩,rfl,rfl⟩
     refine ⟨Ax,?_⟩
     rw [show bitB v=1#64 <<< (v).toNat from bit_sh om om]
     refine Dr 5 rfl (D6 (a:=at_ bks2 (dd:Int)) (b:=1#64 <<< (v).toNat) rfl rfl) (Dr 6 rfl (Cd Ci ty175 rfl rfl om oo) (Cy kr ?_))
     refine Ae 7 rfl (Eff.setAU (xs:=bks2) (i:=(dd:Int)) (n:=(at_ bks2 (dd:Int)) &&& ~~~(1#64 <<< (v).toNat)) ty175 rfl rfl rfl om oo am) ?_
     rintro _ _ ⟨rfl,rfl⟩
     refine Cz kr ?_
     refine Ai (Ar (S8 9 2 10 12 3 4 5 6 rfl rfl rfl rfl rfl rfl rfl rfl) (Ap (Ah (Gm rfl (Gm rfl (Gr (A0 (α:=(BitVec 64)) (xs:=rowsB nd es) B6 ty175 rfl rfl Bf om oo) (Gr (Dg (α:=(BitVec 64)) (xs:=rowsB nd es) (u:=U64 ((at_ (rowsB nd es) v))) ty175 rfl Bf om oo rfl) (Gm rfl (Gr (Cr (a:=(at_ (rowsB nd es) v)) (b:=left &&& ~~~(1#64 <<< (v).toNat)) rfl rfl) (Gc2 (Al call171 rfl rfl (MList_ok ((at_ (rowsB nd es) v) &&& (left &&& ~~~(1#64 <<< (v).toNat))) (B0 hT Ax))) fun ad12 cp13=>?_))))))))))
     refine Gr (Bq Aa rfl) (Gm rfl (Af (Ar (S10 92 91 90 9 2 10 3 4 5 6 rfl rfl rfl rfl rfl rfl rfl rfl rfl rfl) (A3 (Bv (σ:=Nat×(List Int)×(List (BitVec 64))) (fun s=>([(2,.slice ad10 ((ordL done)++([v]:List Int)).length cp11),(3,.slice ad7 (List.replicate ((rowsB nd es).length) (default:Int)).length cp8),(4,.slice ad2 (rowsB nd es).length cp3),(5,.pointer (some ⟨b4,0,none⟩)),(6,.slice ad5 (List.replicate ((rowsB nd es).length) (default:Int)).length cp6),(9,U64 (left &&& ~~~(1#64 <<< (v).toNat))),(10,I64 ((((max kk dd):Nat):Int))),(90,.slice ad12 (listB ((at_ (rowsB nd es) v) &&& (left &&& ~~~(1#64 <<< (v).toNat)))).length cp13),(91,I64 ((((listB ((at_ (rowsB nd es) v) &&& (left &&& ~~~(1#64 <<< (v).toNat)))).length:Nat):Int))),(92,I64 (((s.1:Nat):Int)))]:Env)) (fun s=>vc 3 (.slice ad12 (listB ((at_ (rowsB nd es) v) &&& (left &&& ~~~(1#64 <<< (v).toNat)))).length cp13) (listB ((at_ (rowsB nd es) v) &&& (left &&& ~~~(1#64 <<< (v).toNat))))::vc 3 (.slice ad9 1 1) (([v]:List Int))::vc 3 (.slice ad10 ((ordL done)++([v]:List Int)).length cp11) ((ordL done)++([v]:List Int))::vc 3 (.slice ad7 (List.replicate ((rowsB nd es).length) (default:Int)).length cp8) (List.set (numL (rowsB nd es).length done) (v).toNat ((((max kk dd):Nat):Int)))::vc 3 (.slice ad5 (List.replicate ((rowsB nd es).length) (default:Int)).length cp6) (s.2.1)::blk b4 (cells (s.2.2:List (BitVec 64))) 264::vc 175 (.slice ad2 (rowsB nd es).length cp3) (rowsB nd es)::blk b1 [I64 (nd),va] 48::I) (fun s=>(s.1≤(listB (at_ (rowsB nd es) v &&& (left &&& ~~~(1#64 <<< (v).toNat)))).length)∧(BkOk (rowsB nd es).length (fun u=>u∈listB (left &&& ~~~(1#64 <<< (v).toNat))) (degM (rowsB nd es) left (listB (at_ (rowsB nd es) v &&& (left &&& ~~~(1#64 <<< (v).toNat)))) s.1) s.2.1 s.2.2)) (fun s=>(listB (at_ (rowsB nd es) v &&& (left &&& ~~~(1#64 <<< (v).toNat)))).length - s.1) (0,dgs2,List.set bks2 ((dd:Int)).toNat ((at_ bks2 (dd:Int)) &&& ~~~(1#64 <<< (v).toNat))) (show ((0:Nat)≤(listB (at_ (rowsB nd es) v &&& (left &&& ~~~(1#64 <<< (v).toNat)))).length)∧(BkOk (rowsB nd es).length (fun u=>u∈listB (left &&& ~~~(1#64 <<< (v).toNat))) (degM (rowsB nd es) left (listB (at_ (rowsB nd es) v &&& (left &&& ~~~(1#64 <<< (v).toNat)))) (0:Nat)) (dgs2:List Int) (List.set bks2 ((dd:Int)).toNat ((at_ bks2 (dd:Int)) &&& ~~~(1#64 <<< (v).toNat)):List (BitVec 64))) from ⟨om,((hB2.drop hvm hdv om (fun u=>mem_minus om)).congr (fun u=>Iff.rfl) (fun u _=>degM_zero _ _ _ u))⟩) (Ab rfl (Ab rfl (Ab rfl (Ab rfl (Ab rfl (Ab rfl (Ab rfl (Ab rfl (Ab rfl (Ab Cc Bj)))))))))) (show Fit κ _ (vc 3 (.slice ad12 (listB ((at_ (rowsB nd es) v) &&& (left &&& ~~~(1#64 <<< (v).toNat)))).length cp13) (listB ((at_ (rowsB nd es) v) &&& (left &&& ~~~(1#64 <<< (v).toNat))))::vc 3 (.slice ad9 1 1) (([v]:List Int))::vc 3 (.slice ad10 ((ordL done)++([v]:List Int)).length cp11) ((ordL done)++([v]:List Int))::vc 3 (.slice ad7 (List.replicate ((rowsB nd es).length) (default:Int)).length cp8) (List.set (numL (rowsB nd es).length done) (v).toNat ((((max kk dd):Nat):Int)))::vc 3 (.slice ad5 (List.replicate ((rowsB nd es).length) (default:Int)).length cp6) ((dgs2))::blk b4 (cells ((List.set bks2 ((dd:Int)).toNat ((at_ bks2 (dd:Int)) &&& ~~~(1#64 <<< (v).toNat))):List (BitVec 64))) 264::vc 175 (.slice ad2 (rowsB nd es).length cp3) (rowsB nd es)::blk b1 [I64 (nd),va] 48::I) from Ay) ?_)))))
     rintro ⟨j,dgs1,bks1⟩ hp
     dsimp only at hp ⊢
     obtain ⟨hj,hB1⟩:=hp
     have hdl1:=hB1.dlen
     have hbl1:=hB1.blen
     have hwsl:(listB (at_ (rowsB nd es) v &&& (left &&& ~~~(1#64 <<< (v).toNat)))).length≤64:=listB_len _
     have hwj:j<(listB (at_ (rowsB nd es) v &&& (left &&& ~~~(1#64 <<< (v).toNat)))).length→(at_ (listB (at_ (rowsB nd es) v &&& (left &&& ~~~(1#64 <<< (v).toNat)))) (j:Int))∈listB (left &&& ~~~(1#64 <<< (v).toNat))∧(at_ (listB (at_ (rowsB nd es) v &&& (left &&& ~~~(1#64 <<< (v).toNat)))) (j:Int))∈listB (at_ (rowsB nd es) v):=fun h=>by have h1:=Ce (xs:=(listB (at_ (rowsB nd es) v &&& (left &&& ~~~(1#64 <<< (v).toNat))))) (i:=(j:Int)) om om;exact ⟨(mem_andB.1 h1).2,(mem_andB.1 h1).1⟩
     refine Ah (Gr (Bb rfl rfl) (Af (Ap (A9 rfl (fun c93=>?_) (fun c93=>?_)))))
     ·refine A1 (Ai (Ap (A3 (Ah (Gr (A0 (α:=Int) (xs:=listB ((at_ (rowsB nd es) v) &&& (left &&& ~~~(1#64 <<< (v).toNat)))) Aa ty3 rfl rfl Bf om oo) (Gr (Bp (xs:=listB ((at_ (rowsB nd es) v) &&& (left &&& ~~~(1#64 <<< (v).toNat)))) ty3 rfl Bf om oo) (Ga rfl ?_)))))))
      have hwm:=hwj om
      have hwr:=hB1.rng (at_ (listB (at_ (rowsB nd es) v &&& (left &&& ~~~(1#64 <<< (v).toNat)))) (j:Int)) hwm.1
      have hdeg0:=hB1.deg (at_ (listB (at_ (rowsB nd es) v &&& (left &&& ~~~(1#64 <<< (v).toNat)))) (j:Int)) hwm.1
      have hdeg:=hdeg0
      have hnow:=degM_now (rows:=rowsB nd es) (left:=left) (ws:=(listB (at_ (rowsB nd es) v &&& (left &&& ~~~(1#64 <<< (v).toNat))))) (j:=j) om (listB_nodup _)
      have hlw:(at_ (listB (at_ (rowsB nd es) v &&& (left &&& ~~~(1#64 <<< (v).toNat)))) (j:Int))∈listB left:=((mem_minus om).1 hwm.1).1
      have hw64:=hdg64 (at_ (listB (at_ (rowsB nd es) v &&& (left &&& ~~~(1#64 <<< (v).toNat)))) (j:Int)) hlw
      have hw1:1≤degB (rowsB nd es) left (at_ (listB (at_ (rowsB nd es) v &&& (left &&& ~~~(1#64 <<< (v).toNat)))) (j:Int)):=List.length_pos_of_mem (mem_andB.2 ⟨hS.sym v (at_ (listB (at_ (rowsB nd es) v &&& (left &&& ~~~(1#64 <<< (v).toNat)))) (j:Int)) om om hwm.2,hvm⟩)
      rw [hnow] at hdeg
      refine Af (Ar (S11 14 2 3 4 5 6 9 10 90 91 92 rfl rfl rfl rfl rfl rfl rfl rfl rfl rfl rfl) (Ap (Bd mixed (Bl (vc 3 (.slice ad12 (listB ((at_ (rowsB nd es) v) &&& (left &&& ~~~(1#64 <<< (v).toNat)))).length cp13) (listB ((at_ (rowsB nd es) v) &&& (left &&& ~~~(1#64 <<< (v).toNat))))::vc 3 (.slice ad9 1 1) (([v]:List Int))::vc 3 (.slice ad10 ((ordL done)++([v]:List Int)).length cp11) ((ordL done)++([v]:List Int))::vc 3 (.slice ad7 (List.replicate ((rowsB nd es).length) (default:Int)).length cp8) (List.set (numL (rowsB nd es).length done) (v).toNat ((((max kk dd):Nat):Int)))::vc 3 (.slice ad5 (List.replicate ((rowsB nd es).length) (default:Int)).length cp6) (dgs1)::blk b4 (cells (bks1:List (BitVec 64))) 264::vc 175 (.slice ad2 (rowsB nd es).length cp3) (rowsB nd es)::blk b1 [I64 (nd),va] 48::I) 10 (Dr 0 rfl (Ad rfl) (Dr 1 rfl (Ad rfl) (Dr 2 rfl (A0 (α:=Int) (xs:=dgs1) Aa ty3 rfl rfl Bf om oo) (Dr 3 rfl (Bp (xs:=dgs1) ty3 rfl Bf om oo) (Dr 4 rfl (Cd Ci ty175 rfl rfl om oo) (Dr 5 rfl (El (xs:=bks1) ty175 rfl (Ck mm) om oo) (Dr 6 rfl (Ad rfl) (Ds1 7 (Se rfl (Al call237 rfl rfl (Bit_ok (at_ (listB ((at_ (rowsB nd es) v) &&& (left &&& ~~~(1#64 <<< (v).toNat)))) (j:Int)))) ?_)))))))))))))
      rintro _ _ ⟨_,_,⟨rfl,rfl⟩,rfl,rfl⟩
      refine ⟨Ax,?_⟩
      refine Dr 8 rfl (D6 (a:=at_ bks1 (at_ dgs1 (at_ (listB ((at_ (rowsB nd es) v) &&& (left &&& ~~~(1#64 <<< (v).toNat)))) (j:Int)))) (b:=bitB (at_ (listB ((at_ (rowsB nd es) v) &&& (left &&& ~~~(1#64 <<< (v).toNat)))) (j:Int))) rfl rfl) (Dr 9 rfl (Cd Ci ty175 rfl rfl om oo) (Cy kr ?_))
      refine Ae 10 rfl (Eff.setAU (xs:=bks1) (i:=at_ dgs1 (at_ (listB ((at_ (rowsB nd es) v) &&& (left &&& ~~~(1#64 <<< (v).toNat)))) (j:Int))) (n:=(at_ bks1 (at_ dgs1 (at_ (listB ((at_ (rowsB nd es) v) &&& (left &&& ~~~(1#64 <<< (v).toNat)))) (j:Int)))) &&& ~~~(bitB (at_ (listB ((at_ (rowsB nd es) v) &&& (left &&& ~~~(1#64 <<< (v).toNat)))) (j:Int)))) ty175 rfl rfl rfl om oo am) ?_
      rintro _ _ ⟨rfl,rfl⟩
      refine Cz kr ?_
      refine Ai (Ar (S11 14 2 3 4 5 6 9 10 90 91 92 rfl rfl rfl rfl rfl rfl rfl rfl rfl rfl rfl) (Ah (Gm rfl (Gm rfl (Gr (A0 (α:=Int) (xs:=dgs1) Aa ty3 rfl rfl Bf om oo) (Gr (Bp (xs:=dgs1) ty3 rfl Bf om oo) (Gr (Rsu rfl rfl) (Gr (A0 (α:=Int) (xs:=dgs1) Aa ty3 rfl rfl Bf om oo) (Ge0 (Cw (α:=Int) (xs:=dgs1) (e:=3) (new:=(at_ dgs1 (at_ (listB ((at_ (rowsB nd es) v) &&& (left &&& ~~~(1#64 <<< (v).toNat)))) (j:Int))) - 1) ty3 rfl rfl rfl om oo am) ?_)))))))))
      have hset2:at_ (List.set dgs1 (at_ (listB ((at_ (rowsB nd es) v) &&& (left &&& ~~~(1#64 <<< (v).toNat)))) (j:Int)).toNat ((at_ dgs1 (at_ (listB ((at_ (rowsB nd es) v) &&& (left &&& ~~~(1#64 <<< (v).toNat)))) (j:Int))) - 1)) (at_ (listB (at_ (rowsB nd es) v &&& (left &&& ~~~(1#64 <<< (v).toNat)))) (j:Int))=at_ dgs1 (at_ (listB (at_ (rowsB nd es) v &&& (left &&& ~~~(1#64 <<< (v).toNat)))) (j:Int)) - 1:=by rw [C6 _ _ _ _ om om om,if_pos rfl]
      refine Af (Ar (S11 14 2 3 4 5 6 9 10 90 91 92 rfl rfl rfl rfl rfl rfl rfl rfl rfl rfl rfl) (Bd mixed (Bl (vc 3 (.slice ad12 (listB ((at_ (rowsB nd es) v) &&& (left &&& ~~~(1#64 <<< (v).toNat)))).length cp13) (listB ((at_ (rowsB nd es) v) &&& (left &&& ~~~(1#64 <<< (v).toNat))))::vc 3 (.slice ad9 1 1) (([v]:List Int))::vc 3 (.slice ad10 ((ordL done)++([v]:List Int)).length cp11) ((ordL done)++([v]:List Int))::vc 3 (.slice ad7 (List.replicate ((rowsB nd es).length) (default:Int)).length cp8) (List.set (numL (rowsB nd es).length done) (v).toNat ((((max kk dd):Nat):Int)))::vc 3 (.slice ad5 (List.replicate ((rowsB nd es).length) (default:Int)).length cp6) (List.set dgs1 (at_ (listB ((at_ (rowsB nd es) v) &&& (left &&& ~~~(1#64 <<< (v).toNat)))) (j:Int)).toNat ((at_ dgs1 (at_ (listB ((at_ (rowsB nd es) v) &&& (left &&& ~~~(1#64 <<< (v).toNat)))) (j:Int))) - 1))::blk b4 (cells (List.set bks1 (at_ dgs1 (at_ (listB ((at_ (rowsB nd es) v) &&& (left &&& ~~~(1#64 <<< (v).toNat)))) (j:Int))).toNat ((at_ bks1 (at_ dgs1 (at_ (listB ((at_ (rowsB nd es) v) &&& (left &&& ~~~(1#64 <<< (v).toNat)))) (j:Int)))) &&& ~~~(bitB (at_ (listB ((at_ (rowsB nd es) v) &&& (left &&& ~~~(1#64 <<< (v).toNat)))) (j:Int)))):List (BitVec 64))) 264::vc 175 (.slice ad2 (rowsB nd es).length cp3) (rowsB nd es)::blk b1 [I64 (nd),va] 48::I) 10 (Dr 0 rfl (Ad rfl) (Dr 1 rfl (Ad rfl) (Dr 2 rfl (A0 (α:=Int) (xs:=List.set dgs1 (at_ (listB ((at_ (rowsB nd es) v) &&& (left &&& ~~~(1#64 <<< (v).toNat)))) (j:Int)).toNat ((at_ dgs1 (at_ (listB ((at_ (rowsB nd es) v) &&& (left &&& ~~~(1#64 <<< (v).toNat)))) (j:Int))) - 1)) Aa ty3 rfl rfl Bf om oo) (Dr 3 rfl (Bp (xs:=List.set dgs1 (at_ (listB ((at_ (rowsB nd es) v) &&& (left &&& ~~~(1#64 <<< (v).toNat)))) (j:Int)).toNat ((at_ dgs1 (at_ (listB ((at_ (rowsB nd es) v) &&& (left &&& ~~~(1#64 <<< (v).toNat)))) (j:Int))) - 1)) ty3 rfl Bf om oo) (Dr 4 rfl (Cd Ci ty175 rfl rfl om oo) (Dr 5 rfl (El (xs:=List.set bks1 (at_ dgs1 (at_ (listB ((at_ (rowsB nd es) v) &&& (left &&& ~~~(1#64 <<< (v).toNat)))) (j:Int))).toNat ((at_ bks1 (at_ dgs1 (at_ (listB ((at_ (rowsB nd es) v) &&& (left &&& ~~~(1#64 <<< (v).toNat)))) (j:Int)))) &&& ~~~(bitB (at_ (listB ((at_ (rowsB nd es) v) &&& (left &&& ~~~(1#64 <<< (v).toNat)))) (j:Int))))) ty175 rfl (Ck mm) om oo) (Dr 6 rfl (Ad rfl) (Ds1 7 (Se rfl (Al call237 rfl rfl (Bit_ok (at_ (listB ((at_ (rowsB nd es) v) &&& (left &&& ~~~(1#64 <<< (v).toNat)))) (j:Int)))) ?_))))))))))))
      rintro _ _ ⟨_,_,⟨rfl,rfl⟩,rfl,rfl⟩
      refine ⟨Ax,?_⟩
      refine Dr 8 rfl (Eg (a:=at_ (List.set bks1 (at_ dgs1 (at_ (listB ((at_ (rowsB nd es) v) &&& (left &&& ~~~(1#64 <<< (v).toNat)))) (j:Int))).toNat ((at_ bks1 (at_ dgs1 (at_ (listB ((at_ (rowsB nd es) v) &&& (left &&& ~~~(1#64 <<< (v).toNat)))) (j:Int)))) &&& ~~~(bitB (at_ (listB ((at_ (rowsB nd es) v) &&& (left &&& ~~~(1#64 <<< (v).toNat)))) (j:Int))))) (at_ (List.set dgs1 (at_ (listB ((at_ (rowsB nd es) v) &&& (left &&& ~~~(1#64 <<< (v).toNat)))) (j:Int)).toNat ((at_ dgs1 (at_ (listB ((at_ (rowsB nd es) v) &&& (left &&& ~~~(1#64 <<< (v).toNat)))) (j:Int))) - 1)) (at_ (listB ((at_ (rowsB nd es) v) &&& (left &&& ~~~(1#64 <<< (v).toNat)))) (j:Int)))) (b:=bitB (at_ (listB ((at_ (rowsB nd es) v) &&& (left &&& ~~~(1#64 <<< (v).toNat)))) (j:Int))) rfl rfl) (Dr 9 rfl (Cd Ci ty175 rfl rfl om oo) (Cy kr ?_))
      refine Ae 10 rfl (Eff.setAU (xs:=List.set bks1 (at_ dgs1 (at_ (listB ((at_ (rowsB nd es) v) &&& (left &&& ~~~(1#64 <<< (v).toNat)))) (j:Int))).toNat ((at_ bks1 (at_ dgs1 (at_ (listB ((at_ (rowsB nd es) v) &&& (left &&& ~~~(1#64 <<< (v).toNat)))) (j:Int)))) &&& ~~~(bitB (at_ (listB ((at_ (rowsB nd es) v) &&& (left &&& ~~~(1#64 <<< (v).toNat)))) (j:Int))))) (i:=at_ (List.set dgs1 (at_ (listB ((at_ (rowsB nd es) v) &&& (left &&& ~~~(1#64 <<< (v).toNat)))) (j:Int)).toNat ((at_ dgs1 (at_ (listB ((at_ (rowsB nd es) v) &&& (left &&& ~~~(1#64 <<< (v).toNat)))) (j:Int))) - 1)) (at_ (listB ((at_ (rowsB nd es) v) &&& (left &&& ~~~(1#64 <<< (v).toNat)))) (j:Int))) (n:=(at_ (List.set bks1 (at_ dgs1 (at_ (listB ((at_ (rowsB nd es) v) &&& (left &&& ~~~(1#64 <<< (v).toNat)))) (j:Int))).toNat ((at_ bks1 (at_ dgs1 (at_ (listB ((at_ (rowsB nd es) v) &&& (left &&& ~~~(1#64 <<< (v).toNat)))) (j:Int)))) &&& ~~~(bitB (at_ (listB ((at_ (rowsB nd es) v) &&& (left &&& ~~~(1#64 <<< (v).toNat)))) (j:Int))))) (at_ (List.set dgs1 (at_ (listB ((at_ (rowsB nd es) v) &&& (left &&& ~~~(1#64 <<< (v).toNat)))) (j:Int)).toNat ((at_ dgs1 (at_ (listB ((at_ (rowsB nd es) v) &&& (left &&& ~~~(1#64 <<< (v).toNat)))) (j:Int))) - 1)) (at_ (listB ((at_ (rowsB nd es) v) &&& (left &&& ~~~(1#64 <<< (v).toNat)))) (j:Int)))) ||| (bitB (at_ (listB ((at_ (rowsB nd es) v) &&& (left &&& ~~~(1#64 <<< (v).toNat)))) (j:Int)))) ty175 rfl rfl rfl om oo am) ?_
      rintro _ _ ⟨rfl,rfl⟩
      refine Cz kr ?_
      exact Aj (Ai (Ar (S10 2 3 4 5 6 9 10 90 91 92 rfl rfl rfl rfl rfl rfl rfl rfl rfl rfl) (A2 (Gr (Rad rfl rfl) (Gm rfl (Bh (B7 ((j+1),(List.set dgs1 (at_ (listB ((at_ (rowsB nd es) v) &&& (left &&& ~~~(1#64 <<< (v).toNat)))) (j:Int)).toNat ((at_ dgs1 (at_ (listB ((at_ (rowsB nd es) v) &&& (left &&& ~~~(1#64 <<< (v).toNat)))) (j:Int))) - 1)),(List.set (List.set bks1 (at_ dgs1 (at_ (listB ((at_ (rowsB nd es) v) &&& (left &&& ~~~(1#64 <<< (v).toNat)))) (j:Int))).toNat ((at_ bks1 (at_ dgs1 (at_ (listB ((at_ (rowsB nd es) v) &&& (left &&& ~~~(1#64 <<< (v).toNat)))) (j:Int)))) &&& ~~~(bitB (at_ (listB ((at_ (rowsB nd es) v) &&& (left &&& ~~~(1#64 <<< (v).toNat)))) (j:Int))))) (at_ (List.set dgs1 (at_ (listB ((at_ (rowsB nd es) v) &&& (left &&& ~~~(1#64 <<< (v).toNat)))) (j:Int)).toNat ((at_ dgs1 (at_ (listB ((at_ (rowsB nd es) v) &&& (left &&& ~~~(1#64 <<< (v).toNat)))) (j:Int))) - 1)) (at_ (listB ((at_ (rowsB nd es) v) &&& (left &&& ~~~(1#64 <<< (v).toNat)))) (j:Int))).toNat ((at_ (List.set bks1 (at_ dgs1 (at_ (listB ((at_ (rowsB nd es) v) &&& (left &&& ~~~(1#64 <<< (v).toNat)))) (j:Int))).toNat ((at_ bks1 (at_ dgs1 (at_ (listB ((at_ (rowsB nd es) v) &&& (left &&& ~~~(1#64 <<< (v).toNat)))) (j:Int)))) &&& ~~~(bitB (at_ (listB ((at_ (rowsB nd es) v) &&& (left &&& ~~~(1#64 <<< (v).toNat)))) (j:Int))))) (at_ (List.set dgs1 (at_ (listB ((at_ (rowsB nd es) v) &&& (left &&& ~~~(1#64 <<< (v).toNat)))) (j:Int)).toNat ((at_ dgs1 (at_ (listB ((at_ (rowsB nd es) v) &&& (left &&& ~~~(1#64 <<< (v).toNat)))) (j:Int))) - 1)) (at_ (listB ((at_ (rowsB nd es) v) &&& (left &&& ~~~(1#64 <<< (v).toNat)))) (j:Int)))) ||| (bitB (at_ (listB ((at_ (rowsB nd es) v) &&& (left &&& ~~~(1#64 <<< (v).toNat)))) (j:Int)))))) (by dsimp only;exact ⟨om,(by have hN:=hB1.lower om (w:=(at_ (listB (at_ (rowsB nd es) v &&& (left &&& ~~~(1#64 <<< (v).toNat)))) (j:Int))) (e:=at_ dgs1 (at_ (listB (at_ (rowsB nd es) v &&& (left &&& ~~~(1#64 <<< (v).toNat)))) (j:Int))) hwm.1 hdeg0.symm om om (dg':=degM (rowsB nd es) left (listB (at_ (rowsB nd es) v &&& (left &&& ~~~(1#64 <<< (v).toNat)))) (j+1)) (fun u _=>degM_succ om (listB_nodup _) u);rw [hset2,bit_sh om om];exact hN)⟩))))))))
     ·exact Bs (Am (Am (A7 (Ai (Bs (C9 rfl (Am (Am (C9 rfl (A7 (B7 ((done++[(v,max kk dd)]),((left &&& ~~~(1#64 <<< (v).toNat))),(max kk dd),(dgs1),(bks1),(ad10),(cp11)) (by dsimp only;exact ⟨(core_step hc hTk om),(hB1.congr (fun u=>Iff.rfl) (fun u hu=>by have hr:=hB1.rng u hu;exact (degM_all hS om om hvm hr.1 hr.2 hu om).symm)),(by have:=listB_minus hvm;simp only [List.length_append,List.length_cons,List.length_nil];omega),om⟩) (hlt:=by (try dsimp only);exact (by have:=listB_minus hvm;omega)) (hL:=(Ab (C1 rfl (by first|rfl|(rw [ordL_snoc])|simp)) (Ab rfl (Ab rfl (Ab rfl (Ab rfl (Ab (C1 rfl (by first|rfl|(rw [ordL_snoc])|simp)) (Ab rfl Bj)))))))) (hI:=by (try dsimp only);exact (by rw [ordL_snoc,numL_snoc];exact Bt)))))))))))))
   ·exact (hB2.some (Classical.not_not.1 (fun h=>h asm)) hdg64 (fun c h1 h2=>hz c h1 om)).elim
  ·refine Bs (Am (Am (A7 (Ai (Ah (Gm rfl (Gm rfl (Ga rfl (Ga rfl (Af (Az (V.jump_ret ?_))))))))))))
   have hl0:left=0#64:=Classical.not_not.1 c50
   have hdn:done=coreR0 nd es:=by rw [←hc,hl0,coreR_zero,List.append_nil]
   subst hdn
   have hcl:=coreL_len nd es
   exact Ct rfl rfl rfl (vc 3 (.slice ao (coreO nd es).length co) (coreO nd es)::vc 3 (.slice ad7 (coreL nd es).length cp8) (coreL nd es)::I) (by rw [hcl];simp only [List.length_replicate];exact Bt) ⟨ao,co,ad7,cp8,by rw [hcl];simp only [List.length_replicate];rfl,rfl⟩
variable {κ:Ctx}{I:List Item}
theorem CNumbers_ok{nd:Int}{va:Value}{es:List Pt}(hl:Sl κ I va es)(hT:TabRd κ I 0 tzCells) :
    CallS Tryz.prog κ 104 [.agg #[I64 (nd),va]] I (fun r J=>∃a c,r = .tuple #[.slice a (coreN nd es).length c,I64 (checkG nd es)]∧J=vc 3 (.slice a (coreN nd es).length c) (coreN nd es)::I):=by
 refine Ce1 Tryz.func104 rfl rfl ?_
 refine Ah (Ge1 (Bc (cs:=[_,_]) rfl rfl rfl) fun b1=>Ga rfl (Ga rfl (Af (Ap (Ah (Gl2 ty48 ?_))))))
 refine Gc0 (Al call83 rfl rfl (CheckGen_ok (Bi hl))) ?_
 refine Ga rfl (Af (Ah (Gm rfl (Gr (Br rfl rfl) (Af (A9 rfl (fun c10=>?_) (fun c10=>?_)))))))
 ·refine Ah (Gm rfl (Ga rfl (Ga rfl (Af (Az (Ak ?_))))))
  have hX:(coreN nd es)=[]:=if_pos c10
  exact Ct rfl rfl rfl (vc 3 (.slice none (coreN nd es).length 0) (coreN nd es)::I) (by rw [hX];exact Cs (show Fit κ _ I from Ax) (Bx (α:=Int) _ _)) ⟨none,0,by rw [hX];rfl,rfl⟩
 ·refine A1 (Ai (Ah (Gl2 ty48 ?_)))
  refine G.e (Al call175 rfl rfl (CPeel_ok (nd:=nd) (Bi hl) (checkG_ok.1 (Classical.not_not.1 c10)) (B0 hT Ax))) ?_
  rintro _ _ ⟨_,_,⟨ad2,cp3,ad4,cp5,rfl,rfl⟩,rfl,rfl⟩
  refine Gm rfl (Gr (Aw rfl rfl) (Gr (Aw rfl rfl) (Ga rfl (Ga rfl (Af (Ar (S1 6 rfl) (Ah (Gm rfl (Ga rfl (Ga rfl (Af (Az ?_))))))))))))
  have hX:(coreN nd es)=_:=if_neg c10
  have hz:checkG nd es=0:=Classical.not_not.1 c10
  exact Ct rfl rfl rfl (vc 3 (.slice ad4 (coreN nd es).length cp5) (coreN nd es)::I) (by rw [hX];exact Ay) ⟨ad4,cp5,by rw [hX,hz]<;>rfl,rfl⟩
theorem coreN_len(nd:Int)(es:List Pt):(coreN nd es).length≤64:=by
 unfold coreN
 split
 ·simp
 ·rw [coreL_len,rowsB_len];omega
theorem CCore_ok{nd lv:Int}{va:Value}{es:List Pt}(hl:Sl κ I va es)(hT:TabRd κ I 0 tzCells) :
    CallS Tryz.prog κ 109 [.agg #[I64 (nd),va],I64 (lv)] I (fun r J=>∃a c,r = .tuple #[.slice a (coreK nd es lv).length c,I64 (checkG nd es)]∧J=vc 3 (.slice a (coreK nd es lv).length c) (coreK nd es lv)::I):=by
 have hnl0:=coreN_len nd es
 refine Ce2 Tryz.func109 rfl rfl ?_
 refine Ah (Ge1 (Bc (cs:=[_,_]) rfl rfl rfl) fun b1=>Ga rfl (Ga rfl (Af (Ah (Gl2 ty48 ?_)))))
 refine Gc2 (Al call104 rfl rfl (CNumbers_ok (nd:=nd) (Bi hl) (B0 hT Ax))) fun ad2 cp3=>?_
 refine Gm rfl (Gr (Aw rfl rfl) (Gr (Aw rfl rfl) (Ga rfl (Ga rfl (Af (Ah (Ga rfl (Af (Ap (Ah (Gm rfl (Gr (Bq Aa rfl) (Gm rfl (Af (Ar (S6 18 17 16 8 7 1 rfl rfl rfl rfl rfl rfl) (A3 (Bv (σ:=Nat×(Option Addr)×Nat×(List Int)) (fun s=>([(1,I64 (lv)),(7,I64 (checkG nd es)),(8,.slice s.2.1 s.2.2.2.length s.2.2.1),(16,.slice ad2 (coreN nd es).length cp3),(17,I64 ((((coreN nd es).length:Nat):Int))),(18,I64 (((s.1:Nat):Int)))]:Env)) (fun s=>vc 3 (.slice s.2.1 s.2.2.2.length s.2.2.1) (s.2.2.2)::vc 3 (.slice ad2 (coreN nd es).length cp3) (coreN nd es)::blk b1 [I64 (nd),va] 48::I) (fun s=>(s.1≤(coreN nd es).length)∧(s.2.2.2=sideL s.1 (fun v=>decide (lv≤at_ (coreN nd es) v)))) (fun s=>(coreN nd es).length - s.1) (0,none,0,[]) (show ((0:Nat)≤(coreN nd es).length)∧(([]:List Int)=sideL (0:Nat) (fun v=>decide (lv≤at_ (coreN nd es) v))) from ⟨om,rfl⟩) (Ab rfl (Ab rfl (Ab (C1 rfl (by first|rfl|simp)) (Ab rfl (Ab rfl (Ab Cc Bj)))))) (show Fit κ _ (vc 3 (.slice (none) ([]).length (0)) (([]))::vc 3 (.slice ad2 (coreN nd es).length cp3) (coreN nd es)::blk b1 [I64 (nd),va] 48::I) from (Bx _ _)) ?_)))))))))))))))))
 rintro ⟨k,a,c,out⟩ hp
 dsimp only at hp ⊢
 obtain ⟨hk,ho⟩:=hp
 have hol:out.length≤k:=by rw [ho];exact sideL_len _ _
 have hnl:=coreN_len nd es
 refine Ah (Gr (Bb rfl rfl) (Af (Ap (A9 rfl (fun c19=>?_) (fun c19=>?_)))))
 ·refine A1 (Ai (Ap (A3 (Ah (Gm rfl (Gr (A0 (α:=Int) (xs:=coreN nd es) Aa ty3 rfl rfl Bf om om) (Gr (Bp (xs:=coreN nd es) ty3 rfl Bf om om) (Ga rfl (Ga rfl (Af (Ah (Gm rfl (Gm rfl (Gr (Ca rfl rfl) (Af (Ar (S8 25 9 1 7 8 16 17 18 rfl rfl rfl rfl rfl rfl rfl rfl) (A9 rfl (fun c25=>?_) (fun c25=>?_))))))))))))))))))
  ·refine A2 (Gm rfl (Gm rfl (Ge1 (B8 (α:=Int) (cs:=[_]) (xs:=[(k:Int)]) Aa ty3 rfl rfl dc dc rfl rfl rfl rfl) fun ad4=>?_)))
   refine Ge2 (Ch (α:=Int) (e:=3) (xs:=out) (ys:=([(k:Int)]:List Int)) Aa ty3 rfl rfl rfl mm Bf lcn dc rfl (fun _ _=>am)) fun ad5 cp6=>?_
   exact Ga rfl (Bh (Aj (Ai (A2 (Gr (Rad rfl rfl) (Gm rfl (Bh (B7 ((k+1),(ad5),(cp6),(out++([(k:Int)]:List Int))) (by dsimp only;exact ⟨om,(by first|(rw [sideL_yes (decide_eq_true asm),←ho])|(rw [sideL_no (decide_eq_false asm),←ho]))⟩)))))))))
  ·exact A1 (Aj (Ai (A2 (Gr (Rad rfl rfl) (Gm rfl (Bh (B7 ((k+1),(a),(c),(out)) (by dsimp only;exact ⟨om,(by first|(rw [sideL_yes (decide_eq_true asm),←ho])|(rw [sideL_no (decide_eq_false asm),←ho]))⟩))))))))
 ·refine Bs (Am (Am (A7 (Ai (Ah (Gm rfl (Gm rfl (Ga rfl (Ga rfl (Af (Az ?_)))))))))))
  have hE:out=(coreK nd es lv):=by rw [ho,show k=(coreN nd es).length by omega];rfl
  exact Ct rfl rfl rfl (vc 3 (.slice a (coreK nd es lv).length c) (coreK nd es lv)::I) (by rw [←hE];exact Ay) ⟨a,c,by rw [←hE],rfl⟩
structure BothP (n:Net) (f:List Int) (side:List Bool):Prop where
 flow:IsFlow n f
 len:(side.length:Int)=n.nodes
 great:∃T,Great n f T∧∀z:Int,0≤z→z<n.nodes→at_ side z=T z
set_option maxHeartbeats 1000000 in
theorem Both_ok{κ:Ctx}{I:List Item}{n:Net}{v:Value}(hl:Sl κ I v n.arcs)(hok:n.Ok) :
    CallS Tryz.prog κ 282 [.agg #[I64 (n.nodes),I64 (n.source),I64 (n.sink),v]] I (fun r J=>∃a c f a' c' side val,r = .tuple #[.slice a f.length c,I64 val,.slice a' side.length c']∧BothP n f side∧J=vc 4 (.slice a' side.length c') side::vc 3 (.slice a f.length c) f::I):=by
 have hlim:=hok.lim
 have hsnk:=hok.snk
 have hsrc:=hok.src
 refine Ce1 Tryz.func282 rfl rfl ?_
 refine Ah (Ge1 (Bc (cs:=[_,_,_,_]) rfl rfl rfl) fun b1=>Ga rfl (Ga rfl (Ga rfl (Af (Ah (Gl4 ty303 ?_))))))
 refine G.e (Al call317 rfl rfl (Solved_ok (n:=n) (Bi hl) hok)) ?_
 rintro _ _ ⟨_,_,⟨b,hw,ow,lw,nw,f,hs,rs,L,nx,val,rfl,⟨hfull,hh,hr⟩,rfl⟩,rfl,rfl⟩
 refine G.fit (J:=blk b [hw,ow,lw,nw,I64 (n.sink)] 339::vc 336 (hw) (hs)::vc 3 (lw) (L)::vc 3 (nw) (nx)::vc 22 (ow) (rs)::blk b1 [I64 (n.nodes),I64 (n.source),I64 (n.sink),v] 303::(rowsI rs++I)) Bt ?_
 refine Gm rfl (Gr (Aw rfl rfl) (Gr (Aw rfl rfl) (Ga rfl (Ga rfl (Af (Ap (Ah (Gf fld303_3 rfl ?_))))))))
 have hff:=hfull.flow.len
 have hhl:=hh.len
 refine Gl ty301 ?_
 refine Gr (Bw (α:=Arc) (xs:=n.arcs) C3 rfl (Bi hl)) (Gm rfl (Af (Ar (S7 17 16 15 3 5 2 1 rfl rfl rfl rfl rfl rfl rfl) (A3 (Bv (σ:=Nat×(Option Addr)×Nat×(List Int)) (fun s=>([(1,.pointer (some ⟨b1,0,none⟩)),(2,.slice s.2.1 s.2.2.2.length s.2.2.1),(3,I64 (val)),(5,.pointer (some ⟨b,0,none⟩)),(15,v),(16,I64 (((n.arcs.length:Nat):Int))),(17,I64 (((s.1:Nat):Int)))]:Env)) (fun s=>vc 3 (.slice s.2.1 s.2.2.2.length s.2.2.1) (s.2.2.2)::blk b [hw,ow,lw,nw,I64 (n.sink)] 339::vc 336 (hw) (hs)::vc 3 (lw) (L)::vc 3 (nw) (nx)::vc 22 (ow) (rs)::blk b1 [I64 (n.nodes),I64 (n.source),I64 (n.sink),v] 303::(rowsI rs++I)) (fun s=>(s.1≤n.arcs.length)∧(s.2.2.2=f.take s.1)) (fun s=>n.arcs.length - s.1) (0,none,0,[]) (show ((0:Nat)≤n.arcs.length)∧(([]:List Int)=f.take (0:Nat)) from ⟨om,rfl⟩) (Ab rfl (Ab (C1 rfl (by first|rfl|simp)) (Ab rfl (Ab rfl (Ab rfl (Ab rfl (Ab Cc Bj))))))) (show Fit κ _ (vc 3 (.slice (none) ([]).length (0)) (([]))::blk b [hw,ow,lw,nw,I64 (n.sink)] 339::vc 336 (hw) (hs)::vc 3 (lw) (L)::vc 3 (nw) (nx)::vc 22 (ow) (rs)::blk b1 [I64 (n.nodes),I64 (n.source),I64 (n.sink),v] 303::(rowsI rs++I)) from (Bx _ _)) ?_)))))
 rintro ⟨k,a,c,fl⟩ hp
 dsimp only at hp ⊢
 obtain ⟨hk,hfl⟩:=hp
 have hfll:fl.length=k:=by rw [hfl,List.length_take];omega
 refine Ah (Gr (Bb rfl rfl) (Af (Ap (A9 rfl (fun c18=>?_) (fun c18=>?_)))))
 ·refine A1 (Ai (Ap (A3 (Ah (Gm rfl (Gr (A0 (α:=Arc) (xs:=n.arcs) C3 ty305 rfl rfl (Bi hl) om oo) (Gr (Bu (α:=Arc) (xs:=n.arcs) ty305 rfl (Bi hl) om oo) (Ge1 (A8 ty305 rfl) fun b2=>Ga rfl (Ge0 (Es3_3 ty305) ?_)))))))))
  have hgt:=hh.get (2*(k:Int)) ⟨by omega,by omega⟩
  have hcap:=hfull.flow.cap k om
  have hac:=arc_at hok (k:=k) om
  have hlv:leftH n f (2*(k:Int))=(at_ n.arcs (k:Int)).cap - at_ f (k:Int):=by unfold leftH;rw [if_pos om,show (2*(k:Int)) / 2=(k:Int) from by omega]
  have hleft:(at_ n.arcs (k:Int)).cap - (at_ hs (2*(k:Int))).left=at_ f (k:Int):=by omega
  refine Af (Bd mixed (Bl (blk b2 [I64 ((at_ n.arcs (k:Int)).frm),I64 ((at_ n.arcs (k:Int)).dst),I64 ((at_ n.arcs (k:Int)).cap)] 305::blk b [hw,ow,lw,nw,I64 (n.sink)] 339::vc 336 (hw) (hs)::vc 3 (lw) (L)::vc 3 (nw) (nx)::vc 22 (ow) (rs)::blk b1 [I64 (n.nodes),I64 (n.source),I64 (n.sink),v] 303::(rowsI rs++I)) 16 (Dr 0 rfl (Ad rfl) (Dr 1 rfl (Ac fld305_2 rfl) (Dr 2 rfl (Av ty3) ?_)))))
  refine Dr 3 rfl (Ad rfl) (Dr 4 rfl (Ba rfl) (Dr 5 rfl (Ac fld339_0 rfl) (Dr 6 rfl (Av ty337) ?_)))
  refine Dr 7 rfl (Ad rfl) (Dr 8 rfl (Eh rfl rfl (by unfold InR;omega)) (Dr 9 rfl (A0 (α:=Half) (xs:=hs) B3 ty336 rfl rfl Bf om oo) (Dr 10 rfl (Dw (α:=Half) (xs:=hs) fld336_1 rfl Bf oo) (Dr 11 rfl (D7 (α:=Half) (xs:=hs) (u:=I64 ((at_ hs (2*(k:Int))).left)) ty3 rfl Bf om oo rfl) (Dr 12 rfl (Rsu rfl rfl) (Ds1 13 (Se1 rfl (B8 (α:=Int) (cs:=[_]) (xs:=[((at_ n.arcs (k:Int)).cap) - ((at_ hs (2*(k:Int))).left)]) Aa ty3 rfl rfl dc dc rfl rfl rfl rfl) fun ad3=>?_)))))))
  refine Ds1 14 (Se2 rfl (Ch (α:=Int) (e:=3) (xs:=fl) (ys:=([((at_ n.arcs (k:Int)).cap) - ((at_ hs (2*(k:Int))).left)]:List Int)) Aa ty3 rfl rfl rfl mm Bf lcn dc rfl (fun _ _=>am)) fun ad4 cp5=>?_)
  exact Dr 15 rfl (A6 rfl) (Dz (Aj (Ai (Ar (S7 2 1 3 5 15 16 17 rfl rfl rfl rfl rfl rfl rfl) (A2 (Gr (Rad rfl rfl) (Gm rfl (Bh (B7 ((k+1),(ad4),(cp5),(fl++([((at_ n.arcs (k:Int)).cap) - ((at_ hs (2*(k:Int))).left)]:List Int))) (by dsimp only;exact ⟨om,(by rw [hfl,C7 f k om];congr 1;rw [hleft])⟩))))))))))
 ·refine Bs (Am (Am (A7 (Ai (Ah (Gm rfl ?_))))))
  have hkm:k=n.arcs.length:=by omega
  have hfe:fl=f:=by rw [hfl,hkm,←hff,List.take_length]
  refine Gf fld303_2 rfl (Gl ty3 ?_)
  refine G.e (Al call318 rfl rfl (Cg (J:=blk b [hw,ow,lw,nw,I64 (n.sink)] 339::vc 3 (.slice a fl.length c) (fl)::vc 336 (hw) (hs)::vc 3 (lw) (L)::vc 3 (nw) (nx)::vc 22 (ow) (rs)::blk b1 [I64 (n.nodes),I64 (n.source),I64 (n.sink),v] 303::(rowsI rs++I)) Bt (Reached_ok (n:=n) (rs:=rs) (hs:=hs) hok hh Bf hr Bf (fun i h0 h=>Bz (rowsI_sl i h0 h) Ax) om))) ?_
  rintro _ _ ⟨_,_,⟨ad6,cp7,seen8,rfl,hseen8,rfl⟩,rfl,rfl⟩
  show G Tryz.prog κ _ _ _ _ ([(41,.slice ad6 seen8.length cp7),(40,I64 (n.sink)),(39,.pointer (some ⟨b1,2,none⟩)),(38,.pointer (some ⟨b,0,none⟩)),(18,.bool (decide ((k:Int)<((n.arcs.length:Nat):Int)))),(1,.pointer (some ⟨b1,0,none⟩)),(2,.slice a fl.length c),(3,I64 (val)),(5,.pointer (some ⟨b,0,none⟩)),(15,v),(16,I64 (((n.arcs.length:Nat):Int))),(17,I64 ((k:Int)))]:Env) (vc 4 (.slice ad6 seen8.length cp7) (seen8)::blk b [hw,ow,lw,nw,I64 (n.sink)] 339::vc 3 (.slice a fl.length c) (fl)::vc 336 (hw) (hs)::vc 3 (lw) (L)::vc 3 (nw) (nx)::vc 22 (ow) (rs)::blk b1 [I64 (n.nodes),I64 (n.source),I64 (n.sink),v] 303::(rowsI rs++I))
  have hlenseen8:=hseen8.len
  refine Ga rfl (Af (Ap (Ah (Gm rfl (Gr (Bq Cv rfl) (Gm rfl (Af (Ar (S5 44 43 4 2 3 rfl rfl rfl rfl rfl) (A3 (Bv (σ:=Nat×(List Bool)) (fun s=>([(2,.slice a fl.length c),(3,I64 (val)),(4,.slice ad6 seen8.length cp7),(43,I64 (((seen8.length:Nat):Int))),(44,I64 (((s.1:Nat):Int)))]:Env)) (fun s=>vc 4 (.slice ad6 seen8.length cp7) (s.2)::blk b [hw,ow,lw,nw,I64 (n.sink)] 339::vc 3 (.slice a fl.length c) (fl)::vc 336 (hw) (hs)::vc 3 (lw) (L)::vc 3 (nw) (nx)::vc 22 (ow) (rs)::blk b1 [I64 (n.nodes),I64 (n.source),I64 (n.sink),v] 303::(rowsI rs++I)) (fun s=>(s.1≤seen8.length)∧(s.2.length=seen8.length)∧(∀i:Nat,i<seen8.length→at_ s.2 (i:Int)=if i<s.1 then !at_ seen8 (i:Int) else at_ seen8 (i:Int))) (fun s=>seen8.length - s.1) (0,seen8) (show ((0:Nat)≤seen8.length)∧((seen8:List Bool).length=seen8.length)∧(∀i:Nat,i<seen8.length→at_ (seen8:List Bool) (i:Int)=if i<(0:Nat) then !at_ seen8 (i:Int) else at_ seen8 (i:Int)) from ⟨om,rfl,(fun i h=>by rw [if_neg om])⟩) (Ab rfl (Ab rfl (Ab rfl (Ab rfl (Ab Cc Bj))))) (show Fit κ _ (vc 4 (.slice ad6 seen8.length cp7) ((seen8))::blk b [hw,ow,lw,nw,I64 (n.sink)] 339::vc 3 (.slice a fl.length c) (fl)::vc 336 (hw) (hs)::vc 3 (lw) (L)::vc 3 (nw) (nx)::vc 22 (ow) (rs)::blk b1 [I64 (n.nodes),I64 (n.source),I64 (n.sink),v] 303::(rowsI rs++I)) from Ay) ?_))))))))))
  rintro ⟨k,sd⟩ hp
  dsimp only at hp ⊢
  obtain ⟨hk,hsl,hsd⟩:=hp
  refine Ah (Gr (Bb rfl rfl) (Af (Ap (A9 rfl (fun c45=>?_) (fun c45=>?_)))))
  ·refine A1 (Ai (Ap (A3 (Ah (Gm rfl (Ga rfl (Af (A2 (Gm rfl (Gm rfl (Gm rfl (Gm rfl (Gr (A0 (α:=Bool) (xs:=sd) Cv ty4 rfl rfl Bf om oo) (Gr (Runs.getB (xs:=sd) ty4 rfl Bf om oo) (Gr (Cn rfl) (Gr (A0 (α:=Bool) (xs:=sd) Cv ty4 rfl rfl Bf om oo) (Ge0 (Cw (α:=Bool) (xs:=sd) (e:=4) (new:= !at_ sd (k:Int)) ty4 rfl rfl rfl om oo am) ?_)))))))))))))))))
   exact Bh (Aj (Ai (Ar (S5 2 3 4 43 44 rfl rfl rfl rfl rfl) (A2 (Gr (Rad rfl rfl) (Gm rfl (Bh (B7 ((k+1),(List.set sd ((k:Int)).toNat (!at_ sd (k:Int)))) (by dsimp only;exact ⟨om,(by rw [List.length_set];exact hsl),(fun i h=>by rw [C6 _ _ _ _ om om om];by_cases e:i=k;(· subst e;rw [if_pos rfl,if_pos om,hsd i h,if_neg om]);(· rw [if_neg om,hsd i h];by_cases h2:i<k;(· rw [if_pos h2,if_pos om]);(· rw [if_neg h2,if_neg om])))⟩)))))))))
  ·refine Bs (Am (Am (A7 (Ai (Ah (Gm rfl (Gm rfl (Gm rfl (Ga rfl (Ga rfl (Ga rfl (Af (Az ?_)))))))))))))
   subst hfe
   exact V.ret3 rfl rfl rfl rfl (vc 4 (.slice ad6 sd.length cp7) sd::vc 3 (.slice a fl.length c) fl::I) (by rw [hsl];exact Bt) ⟨a,c,fl,ad6,cp7,sd,val,by rw [hsl],⟨hfull.flow,by omega,_,hseen8.great hok hfull,fun z h0 h1=>by obtain ⟨i,rfl⟩:∃i:Nat,z=(i:Int):=⟨z.toNat,om⟩;rw [hsd i om,if_pos om]⟩,rfl⟩
end Go.Sl
