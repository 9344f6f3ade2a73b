/- A part of the proofs of statements of this seat: contracts of functions, and the plain laws that they lean on. No conditions. -/
import Derived.Test.YtfkcohmipjhfcaaGreatDoorK14
set_option linter.unusedVariables false
set_option linter.unusedSimpArgs false
set_option linter.unusedSectionVars false
open List (replicate)
namespace Go.Sl
open Go.Proofs
set_option maxRecDepth 4000
def coreR0(nd:Int)(es:List Pt):List (Int×Nat):=coreR (ek nd es) (allB ((ek nd es).length:Int)) 0
def coreL(nd:Int)(es:List Pt):List Int:=numL (ek nd es).length (coreR0 nd es)
def coreO(nd:Int)(es:List Pt):List Int:=ordL (coreR0 nd es)
def coreN(nd:Int)(es:List Pt):List Int:=if checkG nd es≠0 then [] else coreL nd es
def coreK(nd:Int)(es:List Pt)(k:Int):List Int:=sideL (coreN nd es).length λv=>decide (k<=e_ (coreN nd es) v)
theorem mem_allN{n:Nat}(h:n<=64){u:Int}:u∈eo (allB (n:Int))↔0<=u/\u<n:=by
 constructor
 ·intro hu
  have hr:=listB_lt hu
  rw [Ed,getLsb_allB om om om,decide_eq_true_eq] at hu
  omega
 ·intro hu
  rw [Ed,getLsb_allB om om om,decide_eq_true_eq]
  omega
theorem coreL_len(nd:Int)(es:List Pt):(coreL nd es).length=(ek nd es).length:=numL_len _ _
theorem ordL_len(l:List (Int×Nat)):(ordL l).length=l.length:=List.length_map ..
theorem bit_sh{v:Int}(h0:0<=v)(h1:v<64):bitB v=1#64 <<< v.toNat:=by unfold bitB;rw [if_neg om]
theorem deg_full{n:Nat}{rows:List (BitVec 64)}(h:SymB n rows){k:Int}(h0:0<=k)(h1:k<n):onesB (e_ rows k)=((degB rows (allB (n:Int)) k:Nat):Int):=by
 rw [ones_pop]
 unfold degB
 congr 1
 refine ((List.perm_ext_iff_of_nodup (Ee _) (Ee _)).2 λu=>?_).length_eq
 rw [mem_andB]
 refine ⟨λhu=>⟨hu,(mem_allN h.le).2 ⟨(listB_lt hu).1,h.lt k u h0 h1 hu⟩⟩,λhu=>hu.1⟩
theorem rows_sym{nd:Int}{es:List Pt}(hG:GrOk nd es):SymB (ek nd es).length (ek nd es):=by
 have h:=hG.rows.symB hG
 have e:=h.len
 rw [←e] at h;exact h
theorem core_step{rows:List (BitVec 64)}{left:BitVec 64}{kk dd:Nat}{v:Int}{done:List (Int×Nat)}{all:List (Int×Nat)}(hc:done++coreR rows left kk=all)(hT:Takes rows left v)(hd:degB rows left v=dd) :
  (done++[(v,max kk dd)])++coreR rows (left &&& ~~~(1#64 <<< v.toNat)) (max kk dd)=all:=by
 rw [←hc,coreR_step hT,hd,List.append_assoc];rfl
theorem cnt_allN{n:Nat}(h:n<=64):(eo (allB (n:Int))).length=n:=by
 have hp:(eo (allB (n:Int))).Perm ((List.range n).map fun (i:Nat)=>(i:Int)):=(List.perm_ext_iff_of_nodup (Ee _) (by
  exact List.Pairwise.map _ (λa b h=>by omega) (List.nodup_range (n:=n)))).2 λu=>by
  rw [mem_allN h,List.mem_map]
  constructor
  ·intro hu;exact ⟨u.toNat,List.mem_range.2 om,by omega⟩
  ·rintro ⟨i,hi,rfl⟩;have:=List.mem_range.1 hi;omega
 have:=hp.length_eq
 rwa [List.length_map,List.length_range] at this
set_option maxHeartbeats 2000000 in
theorem CPeel_ok{κ:Ctx}{I:List Item}{nd:Int}{va:Value}{es:List Pt}(hl:Sl κ I va es)(hG:GrOk nd es)(hT:TabRd κ I 0 tzCells):eu Tryz.prog κ 175 [.agg #[e7 nd,va]] I (λr J=>∃a c a' c',r = .tuple #[.slice a (coreO nd es).length c,.slice a' (coreL nd es).length c']/\J=vc 3 (.slice a (coreO nd es).length c) (coreO nd es)::vc 3 (.slice a' (coreL nd es).length c') (coreL nd es)::I):=by
 have hS:=rows_sym hG
 have hS64:=hS.le
 refine Ce1 Tryz.func175 C C ?_
 refine Ai (Ge1 (A9 (cs:=[_,_]) C C C) λb1=>Ga C (Ga C (Af (W.scope0 (l:=0) C ?_))))
 refine Ai (Gl2 ty48 ?_)
 refine G.e (Ah call198 C C (MRows_ok (nd:=nd) (Ba hl))) ?_
 rintro _ _ ⟨_,_,⟨ad2,cp3,rfl,rfl⟩,rfl,rfl⟩
 have hrwad2:=rowsB_len nd es
 refine Ga C (Af (Ai (Ge1 (Au ty264 C) λb4=>?_)))
 show G Tryz.prog κ _ _ _ _ ([(5,.pointer (some ⟨b4,0,none⟩)),(4,.slice ad2 (ek nd es).length cp3),(16,.slice ad2 (ek nd es).length cp3),(15,.agg #[e7 nd,va]),(3,.slice none 0 0),(2,.slice none 0 0),(1,.pointer (some ⟨b1,0,none⟩)),(0,.agg #[e7 nd,va])]:Env) (e8 b4 (cells (replicate 64 (0#64):List (BitVec 64))) 264::vc 175 (.slice ad2 (ek nd es).length cp3) (ek nd es)::e8 b1 [e7 nd,va] 48::I)
 refine Af (Ai (Gm C (Gr (Bs Cc C) (Ge2 (Cp (α:=Int) (n:=(ek nd es).length) Ac ef C C C om om dc C) λad5 cp6=>?_))))
 refine Ga C (Af (Ap (Ai (Gm C (Gr (Bs Cc C) (Gm C (Af (Aq (S7 22 21 20 6 5 4 2 C C C C C C C) (A0 (B1 (σ:=Nat×(List Int)×(List (BitVec 64))) (λs=>([(2,.slice none 0 0),(4,.slice ad2 (ek nd es).length cp3),(5,.pointer (some ⟨b4,0,none⟩)),(6,.slice ad5 (replicate ((ek nd es).length) (default:Int)).length cp6),(20,.slice ad2 (ek nd es).length cp3),(21,e7 ((((ek nd es).length:Nat):Int))),(22,e7 ((s.1:Nat):Int))]:Env)) (λs=>vc 3 (.slice ad5 (replicate ((ek nd es).length) (default:Int)).length cp6) (s.2.1)::e8 b4 (cells (s.2.2:List (BitVec 64))) 264::vc 175 (.slice ad2 (ek nd es).length cp3) (ek nd es)::e8 b1 [e7 nd,va] 48::I) (λs=>(s.1<=(ek nd es).length)/\(BkOk (ek nd es).length (λu=>0<=u/\u<((s.1:Nat):Int)) (degB (ek nd es) (allB ((ek nd es).length:Int))) s.2.1 s.2.2)) (λs=>(ek nd es).length - s.1) (0,replicate ((ek nd es).length) (default:Int),replicate 64 (0#64)) (show ((0:Nat)<=(ek nd es).length)/\(BkOk (ek nd es).length (λu=>0<=u/\u<(((0:Nat):Nat):Int)) (degB (ek nd es) (allB ((ek nd es).length:Int))) (replicate ((ek nd es).length) (default:Int):List Int) (replicate 64 (0#64):List (BitVec 64))) from ⟨om,(BkOk.start _ _)⟩) (Aa C (Aa C (Aa C (Aa C (Aa C (Aa C (Aa Ca Bp))))))) (show Fit κ _ (vc 3 (.slice ad5 (replicate ((ek nd es).length) (default:Int)).length cp6) ((replicate ((ek nd es).length) (default:Int)))::e8 b4 (cells ((replicate 64 (0#64)):List (BitVec 64))) 264::vc 175 (.slice ad2 (ek nd es).length cp3) (ek nd es)::e8 b1 [e7 nd,va] 48::I) from A1) ?_))))))))))
 rintro ⟨k,dgs,bks⟩ hp
 dsimp only at hp ⊢
 obtain ⟨hk,hB⟩:=hp
 have hdl:=hB.dlen
 have hbl:=hB.blen
 have hon:k<(ek nd es).length->onesB (e_ (ek nd es) k)=((degB (ek nd es) (allB ((ek nd es).length:Int)) (k:Int):Nat):Int):=λh=>deg_full hS om om
 have hd64:k<(ek nd es).length->((degB (ek nd es) (allB ((ek nd es).length:Int)) (k:Int):Nat):Int)<64:=λh=>by have:=degB_lt hS (allB ((ek nd es).length:Int)) (v:=(k:Int)) om om;omega
 refine Ai (Gr (A7 C C) (Af (Ap (A8 C (λc23=>?_) (λc23=>?_)))))
 ·refine Ay (Aj (Ap (A0 (Ai (Gm C (Gr (Az (α:=(BitVec 64)) (xs:=ek nd es) Cc ty175 C C Bk om oo) (Gr (Dj (α:=(BitVec 64)) (xs:=ek nd es) (u:=U64 ((e_ (ek nd es) k))) ty175 C Bk om oo C) (Ga C (Ga C (Af (Ai (Gm C (Gm C (Gm C (Gc0 (Ah call219 C C (MCount_ok (e_ (ek nd es) k))) ?_)))))))))))))))
  refine Gr (Az (α:=Int) (xs:=dgs) Ac ef C C Bk om oo) (Ge0 (Cx (α:=Int) (xs:=dgs) (e:=3) (new:=onesB (e_ (ek nd es) k)) ef C C C om oo am) ?_)
  have hon1:=hon om
  have hd641:=hd64 om
  have hset:e_ (List.set dgs ((k:Int)).toNat (onesB (e_ (ek nd es) k))) (k:Int)=((degB (ek nd es) (allB ((ek nd es).length:Int)) (k:Int):Nat):Int):=by rw [C8 _ _ _ _ om om om,if_pos rfl,hon1]
  refine Af (Aq (S8 7 2 4 5 6 20 21 22 C C C C C C C C) (Bl mixed (Bt (vc 3 (.slice ad5 (replicate ((ek nd es).length) (default:Int)).length cp6) (List.set dgs ((k:Int)).toNat (onesB (e_ (ek nd es) k)))::e8 b4 (cells (bks:List (BitVec 64))) 264::vc 175 (.slice ad2 (ek nd es).length cp3) (ek nd es)::e8 b1 [e7 nd,va] 48::I) 10 (Dr 0 C (Ad C) (Dr 1 C (Ad C) (Dr 2 C (Az (α:=Int) (xs:=List.set dgs ((k:Int)).toNat (onesB (e_ (ek nd es) k))) Ac ef C C Bk om oo) (Dr 3 C (Bo (xs:=List.set dgs ((k:Int)).toNat (onesB (e_ (ek nd es) k))) ef C Bk om oo) (Dr 4 C (Cb Cy ty175 C C om oo) (Dr 5 C (Ff (xs:=bks) ty175 C (Do mm) om oo) (Dr 6 C (Ad C) (Ds1 7 (Se C (Ah call237 C C (Bit_ok (k:Int))) ?_))))))))))))
  rintro _ _ ⟨_,_,⟨rfl,rfl⟩,rfl,rfl⟩
  refine ⟨A3,?_⟩
  refine Dr 8 C (E8 (a:=e_ bks (e_ (List.set dgs ((k:Int)).toNat (onesB (e_ (ek nd es) k))) (k:Int))) (b:=bitB (k:Int)) C C) (Dr 9 C (Cb Cy ty175 C C om oo) (C0 kr ?_))
  refine Ae 10 C (Eff.setAU (xs:=bks) (i:=e_ (List.set dgs ((k:Int)).toNat (onesB (e_ (ek nd es) k))) (k:Int)) (n:=(e_ bks (e_ (List.set dgs ((k:Int)).toNat (onesB (e_ (ek nd es) k))) (k:Int))) ||| (bitB (k:Int))) ty175 C C C om oo am) ?_
  rintro _ _ ⟨rfl,rfl⟩
  refine C1 kr ?_
  exact Ak (Aj (Aq (S7 2 4 5 6 20 21 22 C C C C C C C) (Ax (Gr (Rad C C) (Gm C (Bi (B5 ((k+1),(List.set dgs ((k:Int)).toNat (onesB (e_ (ek nd es) k))),(List.set bks (e_ (List.set dgs ((k:Int)).toNat (onesB (e_ (ek nd es) k))) (k:Int)).toNat ((e_ bks (e_ (List.set dgs ((k:Int)).toNat (onesB (e_ (ek nd es) k))) (k:Int))) ||| (bitB (k:Int))))) (by dsimp only;exact ⟨om,(by have hN:=hB.push (S':=λu=>0<=u/\u<((k+1:Nat):Int)) (v:=(k:Int)) (c:=((degB (ek nd es) (allB ((ek nd es).length:Int)) (k:Int):Nat):Int)) om om om (λu=>by constructor<;>intro h<;>omega) (λh=>by omega) C (hd64 om);rw [hset,hon om,bit_sh om om];exact hN)⟩))))))))
 ·refine Bv (Al (Al (A5 (Aj (Ai (Gm C (Gr (Bs Cc C) (Ge2 (Cp (α:=Int) (n:=(ek nd es).length) Ac ef C C C om om dc C) λad7 cp8=>?_))))))))
  refine Ga C (Af (Ai (Gm C (Gr (Bs Cc C) (Gc0 (Ah call200 C C (MaskAll_ok (((ek nd es).length:Nat):Int))) ?_)))))
  refine Ga C (Af (Aq (S6 9 3 2 4 5 6 C C C C C C) (Ai (Ga C (Af (Ap (W.label ?_)))))))
  refine Aj (Ap (A0 (B1 (σ:=(List (Int×Nat))×(BitVec 64)×Nat×(List Int)×(List (BitVec 64))×(Option Addr)×Nat) (λs=>([(2,.slice s.2.2.2.2.2.1 (ordL s.1).length s.2.2.2.2.2.2),(3,.slice ad7 (replicate ((ek nd es).length) (default:Int)).length cp8),(4,.slice ad2 (ek nd es).length cp3),(5,.pointer (some ⟨b4,0,none⟩)),(6,.slice ad5 (replicate ((ek nd es).length) (default:Int)).length cp6),(9,U64 (s.2.1)),(10,e7 ((s.2.2.1:Nat):Int))]:Env)) (λs=>vc 3 (.slice s.2.2.2.2.2.1 (ordL s.1).length s.2.2.2.2.2.2) (ordL s.1)::vc 3 (.slice ad7 (replicate ((ek nd es).length) (default:Int)).length cp8) (numL (ek nd es).length s.1)::vc 3 (.slice ad5 (replicate ((ek nd es).length) (default:Int)).length cp6) (s.2.2.2.1)::e8 b4 (cells (s.2.2.2.2.1:List (BitVec 64))) 264::vc 175 (.slice ad2 (ek nd es).length cp3) (ek nd es)::e8 b1 [e7 nd,va] 48::I) (λs=>(s.1++coreR (ek nd es) s.2.1 s.2.2.1=coreR0 nd es)/\(BkOk (ek nd es).length (λu=>u∈eo s.2.1) (degB (ek nd es) s.2.1) s.2.2.2.1 s.2.2.2.2.1)/\(s.1.length+(eo s.2.1).length=(ek nd es).length)/\(s.2.2.1<=63)) (λs=>(eo s.2.1).length) ([],(allB ((ek nd es).length:Int)),0,dgs,bks,none,0) (show (([]:List (Int×Nat))++coreR (ek nd es) ((allB ((ek nd es).length:Int)):BitVec 64) (0:Nat)=coreR0 nd es)/\(BkOk (ek nd es).length (λu=>u∈eo ((allB ((ek nd es).length:Int)):BitVec 64)) (degB (ek nd es) ((allB ((ek nd es).length:Int)):BitVec 64)) (dgs:List Int) (bks:List (BitVec 64)))/\(([]:List (Int×Nat)).length+(eo ((allB ((ek nd es).length:Int)):BitVec 64)).length=(ek nd es).length)/\((0:Nat)<=63) from ⟨rfl,(hB.congr (λu=>(mem_allN hS.le).trans (by constructor<;>intro h<;>omega)) (λu _=>rfl)),(by have:(eo (allB ((ek nd es).length:Int))).length=(ek nd es).length:=cnt_allN hS.le;simp only [List.length_nil];omega),om⟩) (Aa (Dl C (by first|rfl|(rw [ordL_snoc])|simp)) (Aa C (Aa C (Aa C (Aa C (Aa (Dl C (by first|rfl|(rw [ordL_snoc])|simp)) (Aa Ca Bp))))))) (show Fit κ _ (vc 3 (.slice none (ordL ([])).length 0) (ordL ([]))::vc 3 (.slice ad7 (replicate ((ek nd es).length) (default:Int)).length cp8) (numL (ek nd es).length ([]))::vc 3 (.slice ad5 (replicate ((ek nd es).length) (default:Int)).length cp6) ((dgs))::e8 b4 (cells ((bks):List (BitVec 64))) 264::vc 175 (.slice ad2 (ek nd es).length cp3) (ek nd es)::e8 b1 [e7 nd,va] 48::I) from (Cn (B2 (α:=Int) _ _) B7)) ?_)))
  rintro ⟨done,left,kk,dgs2,bks2,ao,co⟩ hp
  dsimp only at hp ⊢
  obtain ⟨hc,hB2,hln,hkk⟩:=hp
  have hdl2:=hB2.dlen
  have hbl2:=hB2.blen
  have hold:=ordL_len done
  have hnl:=numL_len (ek nd es).length done
  have hdg64:∀u∈eo left,degB (ek nd es) left u<64:=λu hu=>by have hr:=hB2.rng u hu;have:=degB_lt hS left hr.1 hr.2;omega
  refine Ap (Ai (Gm C (Gr (Runs.neB (a:=left) (b:=0#64) C C) (Af (A8 C (λc50=>?_) (λc50=>?_))))))
  ·refine Ay (Aj (A0 (Ai (Gm C (Af (A0 (B1 (σ:=Nat) (λs=>([(2,.slice ao (ordL done).length co),(3,.slice ad7 (replicate ((ek nd es).length) (default:Int)).length cp8),(4,.slice ad2 (ek nd es).length cp3),(5,.pointer (some ⟨b4,0,none⟩)),(6,.slice ad5 (replicate ((ek nd es).length) (default:Int)).length cp6),(9,U64 left),(10,e7 ((kk:Int))),(51,e7 ((s:Nat):Int))]:Env)) (λs=>vc 3 (.slice ao (ordL done).length co) (ordL done)::vc 3 (.slice ad7 (replicate ((ek nd es).length) (default:Int)).length cp8) (numL (ek nd es).length done)::vc 3 (.slice ad5 (replicate ((ek nd es).length) (default:Int)).length cp6) (dgs2)::e8 b4 (cells (bks2:List (BitVec 64))) 264::vc 175 (.slice ad2 (ek nd es).length cp3) (ek nd es)::e8 b1 [e7 nd,va] 48::I) (λs=>(s<=64)/\(∀c:Int,0<=c->c<((s:Nat):Int)->e_ bks2 c=0#64)) (λs=>64 - s) 0 (show ((0:Nat)<=64)/\(∀c:Int,0<=c->c<(((0:Nat):Nat):Int)->e_ bks2 c=0#64) from ⟨om,(λc h1 h2=>by omega)⟩) (Aa C (Aa C (Aa C (Aa C (Aa C (Aa C (Aa C (Aa Ca Bp)))))))) (show Fit κ _ (vc 3 (.slice ao (ordL done).length co) (ordL done)::vc 3 (.slice ad7 (replicate ((ek nd es).length) (default:Int)).length cp8) (numL (ek nd es).length done)::vc 3 (.slice ad5 (replicate ((ek nd es).length) (default:Int)).length cp6) (dgs2)::e8 b4 (cells (bks2:List (BitVec 64))) 264::vc 175 (.slice ad2 (ek nd es).length cp3) (ek nd es)::e8 b1 [e7 nd,va] 48::I) from A1) ?_)))))))
   rintro dd hp
   obtain ⟨hdd,hz⟩:=hp
   refine Ai (Gr (A7 C C) (Af (Ap (A8 C (λc52=>?_) (λc52=>?_)))))
   ·refine Ay (Aj (Ap (A0 (Ai (Gm C (Ga C (Af (Ap (Ai (Gm C (Gr (Cb Cy ty175 C C om oo) (Gr (Ff (xs:=bks2) ty175 C (Do mm) om oo) (Gr (Runs.eqB (a:=e_ bks2 dd) (b:=0#64) C C) (Af (Aq (S10 57 11 2 3 4 5 6 9 10 51 C C C C C C C C C C) (A8 C (λc57=>?_) (λc57=>?_)))))))))))))))))
    ·exact Bv (Al (A5 (Aj (Ax (Gr (Rad C C) (Gm C (Bi (B5 ((dd+1)) ⟨om,(λc h1 h2=>by by_cases e:c=(dd:Int);(· rw [e];assumption);(· exact hz c h1 om))⟩))))))))
    ·refine Ay (Aj (Ai (Gm C (Gr (Cb Cy ty175 C C om oo) (Gr (Ff (xs:=bks2) ty175 C (Do mm) om oo) (Gc0 (Ah call238 C C (Least_ok (e_ bks2 dd) (Bx hT A3))) ?_))))))
     have hTT:=hB2.takes (d:=(dd:Int)) om om c57 hz hdg64
     generalize hvE:tzB (e_ bks2 dd)=v at hTT ⊢
     obtain ⟨hTk,hdv⟩:=hTT
     have hvm:=hTk.mem
     have hvr:=hB2.rng v hvm
     refine Ga C (Af (Aq (S9 12 11 2 3 4 5 6 9 10 C C C C C C C C C) (Ai (Gm C (Gm C (Gr (D2 C C) ?_))))))
     have hmx:(if (kk:Int)<(dd:Int) then (dd:Int) else (kk:Int))=(((max kk dd):Nat):Int):=by split<;>omega
     rw [hmx]
     refine Ga C (Af (Aq (S9 10 12 11 2 3 4 5 6 9 C C C C C C C C C) (Ai (Gm C (Gm C (Gm C (Gr (Az (α:=Int) (xs:=numL (ek nd es).length done) Ac ef C C Bk om oo) (Ge0 (Cx (α:=Int) (xs:=numL (ek nd es).length done) (e:=3) (new:=(((max kk dd):Nat):Int)) ef C C C om oo am) ?_))))))))
     refine Af (Ai (Gm C (Gm C (Ge1 (Cf (α:=Int) (cs:=[_]) (xs:=[v]) Ac ef C C dc dc C C C C) λad9=>?_))))
     refine Ge2 (Cm (α:=Int) (e:=3) (xs:=ordL done) (ys:=([v]:List Int)) Ac ef C C C mm Bk lcn dc C (λ_ _=>am)) λad10 cp11=>?_
     refine Ga C (Af (Aq (S9 2 10 12 11 3 4 5 6 9 C C C C C C C C C) (Ai (Gm C (Gm C (G.e (Ah call237 C C (Bit_ok v)) ?_))))))
     rintro _ _ ⟨_,_,⟨rfl,rfl⟩,rfl,rfl⟩
     rw [show bitB v=1#64 <<< (v).toNat from bit_sh om om]
     refine Gr (Er (a:=left) (b:=1#64 <<< (v).toNat) C C) (Ga C (Af (Aq (S9 9 2 10 12 11 3 4 5 6 C C C C C C C C C) (Ap (Bl mixed (Bt (vc 3 (.slice ad9 1 1) (([v]:List Int))::vc 3 (.slice ad10 ((ordL done)++([v]:List Int)).length cp11) ((ordL done)++([v]:List Int))::vc 3 (.slice ad7 (replicate ((ek nd es).length) (default:Int)).length cp8) (List.set (numL (ek nd es).length done) (v).toNat ((((max kk dd):Nat):Int)))::vc 3 (.slice ad5 (replicate ((ek nd es).length) (default:Int)).length cp6) (dgs2)::e8 b4 (cells (bks2:List (BitVec 64))) 264::vc 175 (.slice ad2 (ek nd es).length cp3) (ek nd es)::e8 b1 [e7 nd,va] 48::I) 7 (Dr 0 C (Ad C) (Dr 1 C (Cb Cy ty175 C C om oo) (Dr 2 C (Ff (xs:=bks2) ty175 C (Do mm) om oo) (Dr 3 C (Ad C) (Ds1 4 (Se C (Ah call237 C C (Bit_ok v)) ?_))))))))))))
     rintro _ _ ⟨_,_,⟨rfl,rfl⟩,rfl,rfl⟩
     refine ⟨A3,?_⟩
     rw [show bitB v=1#64 <<< (v).toNat from bit_sh om om]
     refine Dr 5 C (Er (a:=e_ bks2 dd) (b:=1#64 <<< (v).toNat) C C) (Dr 6 C (Cb Cy ty175 C C om oo) (C0 kr ?_))
     refine Ae 7 C (Eff.setAU (xs:=bks2) (i:=(dd:Int)) (n:=(e_ bks2 dd) &&& ~~~(1#64 <<< (v).toNat)) ty175 C C C om oo am) ?_
     rintro _ _ ⟨rfl,rfl⟩
     refine C1 kr ?_
     refine Aj (Aq (S8 9 2 10 12 3 4 5 6 C C C C C C C C) (Ap (Ai (Gm C (Gm C (Gr (Az (α:=(BitVec 64)) (xs:=ek nd es) Cc ty175 C C Bk om oo) (Gr (Dj (α:=(BitVec 64)) (xs:=ek nd es) (u:=U64 ((e_ (ek nd es) v))) ty175 C Bk om oo C) (Gm C (Gr (Da (a:=(e_ (ek nd es) v)) (b:=left &&& ~~~(1#64 <<< (v).toNat)) C C) (Gc2 (Ah call171 C C (MList_ok ((e_ (ek nd es) v) &&& (left &&& ~~~(1#64 <<< (v).toNat))) (Bx hT A3))) λad12 cp13=>?_))))))))))
     refine Gr (Bs Ac C) (Gm C (Af (Aq (S10 92 91 90 9 2 10 3 4 5 6 C C C C C C C C C C) (A0 (B1 (σ:=Nat×(List Int)×(List (BitVec 64))) (λs=>([(2,.slice ad10 ((ordL done)++([v]:List Int)).length cp11),(3,.slice ad7 (replicate ((ek nd es).length) (default:Int)).length cp8),(4,.slice ad2 (ek nd es).length cp3),(5,.pointer (some ⟨b4,0,none⟩)),(6,.slice ad5 (replicate ((ek nd es).length) (default:Int)).length cp6),(9,U64 (left &&& ~~~(1#64 <<< (v).toNat))),(10,e7 ((((max kk dd):Nat):Int))),(90,.slice ad12 (eo ((e_ (ek nd es) v) &&& (left &&& ~~~(1#64 <<< (v).toNat)))).length cp13),(91,e7 ((((eo ((e_ (ek nd es) v) &&& (left &&& ~~~(1#64 <<< (v).toNat)))).length:Nat):Int))),(92,e7 ((s.1:Nat):Int))]:Env)) (λs=>vc 3 (.slice ad12 (eo ((e_ (ek nd es) v) &&& (left &&& ~~~(1#64 <<< (v).toNat)))).length cp13) (eo ((e_ (ek nd es) v) &&& (left &&& ~~~(1#64 <<< (v).toNat))))::vc 3 (.slice ad9 1 1) (([v]:List Int))::vc 3 (.slice ad10 ((ordL done)++([v]:List Int)).length cp11) ((ordL done)++([v]:List Int))::vc 3 (.slice ad7 (replicate ((ek nd es).length) (default:Int)).length cp8) (List.set (numL (ek nd es).length done) (v).toNat ((((max kk dd):Nat):Int)))::vc 3 (.slice ad5 (replicate ((ek nd es).length) (default:Int)).length cp6) (s.2.1)::e8 b4 (cells (s.2.2:List (BitVec 64))) 264::vc 175 (.slice ad2 (ek nd es).length cp3) (ek nd es)::e8 b1 [e7 nd,va] 48::I) (λs=>(s.1<=(eo (e_ (ek nd es) v &&& (left &&& ~~~(1#64 <<< (v).toNat)))).length)/\(BkOk (ek nd es).length (λu=>u∈eo (left &&& ~~~(1#64 <<< (v).toNat))) (degM (ek nd es) left (eo (e_ (ek nd es) v &&& (left &&& ~~~(1#64 <<< (v).toNat)))) s.1) s.2.1 s.2.2)) (λs=>(eo (e_ (ek nd es) v &&& (left &&& ~~~(1#64 <<< (v).toNat)))).length - s.1) (0,dgs2,List.set bks2 ((dd:Int)).toNat ((e_ bks2 dd) &&& ~~~(1#64 <<< (v).toNat))) (show ((0:Nat)<=(eo (e_ (ek nd es) v &&& (left &&& ~~~(1#64 <<< (v).toNat)))).length)/\(BkOk (ek nd es).length (λu=>u∈eo (left &&& ~~~(1#64 <<< (v).toNat))) (degM (ek nd es) left (eo (e_ (ek nd es) v &&& (left &&& ~~~(1#64 <<< (v).toNat)))) (0:Nat)) (dgs2:List Int) (List.set bks2 ((dd:Int)).toNat ((e_ bks2 dd) &&& ~~~(1#64 <<< (v).toNat)):List (BitVec 64))) from ⟨om,((hB2.drop hvm hdv om (λu=>mem_minus om)).congr (λu=>Iff.rfl) (λu _=>degM_zero _ _ _ u))⟩) (Aa C (Aa C (Aa C (Aa C (Aa C (Aa C (Aa C (Aa C (Aa C (Aa Ca Bp)))))))))) (show Fit κ _ (vc 3 (.slice ad12 (eo ((e_ (ek nd es) v) &&& (left &&& ~~~(1#64 <<< (v).toNat)))).length cp13) (eo ((e_ (ek nd es) v) &&& (left &&& ~~~(1#64 <<< (v).toNat))))::vc 3 (.slice ad9 1 1) (([v]:List Int))::vc 3 (.slice ad10 ((ordL done)++([v]:List Int)).length cp11) ((ordL done)++([v]:List Int))::vc 3 (.slice ad7 (replicate ((ek nd es).length) (default:Int)).length cp8) (List.set (numL (ek nd es).length done) (v).toNat ((((max kk dd):Nat):Int)))::vc 3 (.slice ad5 (replicate ((ek nd es).length) (default:Int)).length cp6) ((dgs2))::e8 b4 (cells ((List.set bks2 ((dd:Int)).toNat ((e_ bks2 dd) &&& ~~~(1#64 <<< (v).toNat))):List (BitVec 64))) 264::vc 175 (.slice ad2 (ek nd es).length cp3) (ek nd es)::e8 b1 [e7 nd,va] 48::I) from A1) ?_)))))
     rintro ⟨j,dgs1,bks1⟩ hp
     dsimp only at hp ⊢
     obtain ⟨hj,hB1⟩:=hp
     have hdl1:=hB1.dlen
     have hbl1:=hB1.blen
     have hwsl:(eo (e_ (ek nd es) v &&& (left &&& ~~~(1#64 <<< (v).toNat)))).length<=64:=E5 _
     have hwj:j<(eo (e_ (ek nd es) v &&& (left &&& ~~~(1#64 <<< (v).toNat)))).length->(e_ (eo (e_ (ek nd es) v &&& (left &&& ~~~(1#64 <<< (v).toNat)))) (j:Int))∈eo (left &&& ~~~(1#64 <<< (v).toNat))/\(e_ (eo (e_ (ek nd es) v &&& (left &&& ~~~(1#64 <<< (v).toNat)))) (j:Int))∈eo (e_ (ek nd es) v):=λh=>by have h1:=Bf (xs:=(eo (e_ (ek nd es) v &&& (left &&& ~~~(1#64 <<< (v).toNat))))) (i:=(j:Int)) om om;exact ⟨(mem_andB.1 h1).2,(mem_andB.1 h1).1⟩
     refine Ai (Gr (A7 C C) (Af (Ap (A8 C (λc93=>?_) (λc93=>?_)))))
     ·refine Ay (Aj (Ap (A0 (Ai (Gr (Az (α:=Int) (xs:=eo ((e_ (ek nd es) v) &&& (left &&& ~~~(1#64 <<< (v).toNat)))) Ac ef C C Bk om oo) (Gr (Bo (xs:=eo ((e_ (ek nd es) v) &&& (left &&& ~~~(1#64 <<< (v).toNat)))) ef C Bk om oo) (Ga C ?_)))))))
      have hwm:=hwj om
      have hwr:=hB1.rng (e_ (eo (e_ (ek nd es) v &&& (left &&& ~~~(1#64 <<< (v).toNat)))) (j:Int)) hwm.1
      have hdeg0:=hB1.deg (e_ (eo (e_ (ek nd es) v &&& (left &&& ~~~(1#64 <<< (v).toNat)))) (j:Int)) hwm.1
      have hdeg:=hdeg0
      have hnow:=degM_now (rows:=ek nd es) (left:=left) (ws:=(eo (e_ (ek nd es) v &&& (left &&& ~~~(1#64 <<< (v).toNat))))) (j:=j) om (Ee _)
      have hlw:(e_ (eo (e_ (ek nd es) v &&& (left &&& ~~~(1#64 <<< (v).toNat)))) (j:Int))∈eo left:=((mem_minus om).1 hwm.1).1
      have hw64:=hdg64 (e_ (eo (e_ (ek nd es) v &&& (left &&& ~~~(1#64 <<< (v).toNat)))) (j:Int)) hlw
      have hw1:1<=degB (ek nd es) left (e_ (eo (e_ (ek nd es) v &&& (left &&& ~~~(1#64 <<< (v).toNat)))) (j:Int)):=List.length_pos_of_mem (mem_andB.2 ⟨hS.sym v (e_ (eo (e_ (ek nd es) v &&& (left &&& ~~~(1#64 <<< (v).toNat)))) (j:Int)) om om hwm.2,hvm⟩)
      rw [hnow] at hdeg
      refine Af (Aq (S11 14 2 3 4 5 6 9 10 90 91 92 C C C C C C C C C C C) (Ap (Bl mixed (Bt (vc 3 (.slice ad12 (eo ((e_ (ek nd es) v) &&& (left &&& ~~~(1#64 <<< (v).toNat)))).length cp13) (eo ((e_ (ek nd es) v) &&& (left &&& ~~~(1#64 <<< (v).toNat))))::vc 3 (.slice ad9 1 1) (([v]:List Int))::vc 3 (.slice ad10 ((ordL done)++([v]:List Int)).length cp11) ((ordL done)++([v]:List Int))::vc 3 (.slice ad7 (replicate ((ek nd es).length) (default:Int)).length cp8) (List.set (numL (ek nd es).length done) (v).toNat ((((max kk dd):Nat):Int)))::vc 3 (.slice ad5 (replicate ((ek nd es).length) (default:Int)).length cp6) (dgs1)::e8 b4 (cells (bks1:List (BitVec 64))) 264::vc 175 (.slice ad2 (ek nd es).length cp3) (ek nd es)::e8 b1 [e7 nd,va] 48::I) 10 (Dr 0 C (Ad C) (Dr 1 C (Ad C) (Dr 2 C (Az (α:=Int) (xs:=dgs1) Ac ef C C Bk om oo) (Dr 3 C (Bo (xs:=dgs1) ef C Bk om oo) (Dr 4 C (Cb Cy ty175 C C om oo) (Dr 5 C (Ff (xs:=bks1) ty175 C (Do mm) om oo) (Dr 6 C (Ad C) (Ds1 7 (Se C (Ah call237 C C (Bit_ok (e_ (eo ((e_ (ek nd es) v) &&& (left &&& ~~~(1#64 <<< (v).toNat)))) (j:Int)))) ?_)))))))))))))
      rintro _ _ ⟨_,_,⟨rfl,rfl⟩,rfl,rfl⟩
      refine ⟨A3,?_⟩
      refine Dr 8 C (Er (a:=e_ bks1 (e_ dgs1 (e_ (eo ((e_ (ek nd es) v) &&& (left &&& ~~~(1#64 <<< (v).toNat)))) (j:Int)))) (b:=bitB (e_ (eo ((e_ (ek nd es) v) &&& (left &&& ~~~(1#64 <<< (v).toNat)))) (j:Int))) C C) (Dr 9 C (Cb Cy ty175 C C om oo) (C0 kr ?_))
      refine Ae 10 C (Eff.setAU (xs:=bks1) (i:=e_ dgs1 (e_ (eo ((e_ (ek nd es) v) &&& (left &&& ~~~(1#64 <<< (v).toNat)))) (j:Int))) (n:=(e_ bks1 (e_ dgs1 (e_ (eo ((e_ (ek nd es) v) &&& (left &&& ~~~(1#64 <<< (v).toNat)))) (j:Int)))) &&& ~~~(bitB (e_ (eo ((e_ (ek nd es) v) &&& (left &&& ~~~(1#64 <<< (v).toNat)))) (j:Int)))) ty175 C C C om oo am) ?_
      rintro _ _ ⟨rfl,rfl⟩
      refine C1 kr ?_
      refine Aj (Aq (S11 14 2 3 4 5 6 9 10 90 91 92 C C C C C C C C C C C) (Ai (Gm C (Gm C (Gr (Az (α:=Int) (xs:=dgs1) Ac ef C C Bk om oo) (Gr (Bo (xs:=dgs1) ef C Bk om oo) (Gr (Rsu C C) (Gr (Az (α:=Int) (xs:=dgs1) Ac ef C C Bk om oo) (Ge0 (Cx (α:=Int) (xs:=dgs1) (e:=3) (new:=(e_ dgs1 (e_ (eo ((e_ (ek nd es) v) &&& (left &&& ~~~(1#64 <<< (v).toNat)))) (j:Int))) - 1) ef C C C om oo am) ?_)))))))))
      have hset2:e_ (List.set dgs1 (e_ (eo ((e_ (ek nd es) v) &&& (left &&& ~~~(1#64 <<< (v).toNat)))) (j:Int)).toNat ((e_ dgs1 (e_ (eo ((e_ (ek nd es) v) &&& (left &&& ~~~(1#64 <<< (v).toNat)))) (j:Int))) - 1)) (e_ (eo (e_ (ek nd es) v &&& (left &&& ~~~(1#64 <<< (v).toNat)))) (j:Int))=e_ dgs1 (e_ (eo (e_ (ek nd es) v &&& (left &&& ~~~(1#64 <<< (v).toNat)))) (j:Int)) - 1:=by rw [C8 _ _ _ _ om om om,if_pos rfl]
      refine Af (Aq (S11 14 2 3 4 5 6 9 10 90 91 92 C C C C C C C C C C C) (Bl mixed (Bt (vc 3 (.slice ad12 (eo ((e_ (ek nd es) v) &&& (left &&& ~~~(1#64 <<< (v).toNat)))).length cp13) (eo ((e_ (ek nd es) v) &&& (left &&& ~~~(1#64 <<< (v).toNat))))::vc 3 (.slice ad9 1 1) (([v]:List Int))::vc 3 (.slice ad10 ((ordL done)++([v]:List Int)).length cp11) ((ordL done)++([v]:List Int))::vc 3 (.slice ad7 (replicate ((ek nd es).length) (default:Int)).length cp8) (List.set (numL (ek nd es).length done) (v).toNat ((((max kk dd):Nat):Int)))::vc 3 (.slice ad5 (replicate ((ek nd es).length) (default:Int)).length cp6) (List.set dgs1 (e_ (eo ((e_ (ek nd es) v) &&& (left &&& ~~~(1#64 <<< (v).toNat)))) (j:Int)).toNat ((e_ dgs1 (e_ (eo ((e_ (ek nd es) v) &&& (left &&& ~~~(1#64 <<< (v).toNat)))) (j:Int))) - 1))::e8 b4 (cells (List.set bks1 (e_ dgs1 (e_ (eo ((e_ (ek nd es) v) &&& (left &&& ~~~(1#64 <<< (v).toNat)))) (j:Int))).toNat ((e_ bks1 (e_ dgs1 (e_ (eo ((e_ (ek nd es) v) &&& (left &&& ~~~(1#64 <<< (v).toNat)))) (j:Int)))) &&& ~~~(bitB (e_ (eo ((e_ (ek nd es) v) &&& (left &&& ~~~(1#64 <<< (v).toNat)))) (j:Int)))):List (BitVec 64))) 264::vc 175 (.slice ad2 (ek nd es).length cp3) (ek nd es)::e8 b1 [e7 nd,va] 48::I) 10 (Dr 0 C (Ad C) (Dr 1 C (Ad C) (Dr 2 C (Az (α:=Int) (xs:=List.set dgs1 (e_ (eo ((e_ (ek nd es) v) &&& (left &&& ~~~(1#64 <<< (v).toNat)))) (j:Int)).toNat ((e_ dgs1 (e_ (eo ((e_ (ek nd es) v) &&& (left &&& ~~~(1#64 <<< (v).toNat)))) (j:Int))) - 1)) Ac ef C C Bk om oo) (Dr 3 C (Bo (xs:=List.set dgs1 (e_ (eo ((e_ (ek nd es) v) &&& (left &&& ~~~(1#64 <<< (v).toNat)))) (j:Int)).toNat ((e_ dgs1 (e_ (eo ((e_ (ek nd es) v) &&& (left &&& ~~~(1#64 <<< (v).toNat)))) (j:Int))) - 1)) ef C Bk om oo) (Dr 4 C (Cb Cy ty175 C C om oo) (Dr 5 C (Ff (xs:=List.set bks1 (e_ dgs1 (e_ (eo ((e_ (ek nd es) v) &&& (left &&& ~~~(1#64 <<< (v).toNat)))) (j:Int))).toNat ((e_ bks1 (e_ dgs1 (e_ (eo ((e_ (ek nd es) v) &&& (left &&& ~~~(1#64 <<< (v).toNat)))) (j:Int)))) &&& ~~~(bitB (e_ (eo ((e_ (ek nd es) v) &&& (left &&& ~~~(1#64 <<< (v).toNat)))) (j:Int))))) ty175 C (Do mm) om oo) (Dr 6 C (Ad C) (Ds1 7 (Se C (Ah call237 C C (Bit_ok (e_ (eo ((e_ (ek nd es) v) &&& (left &&& ~~~(1#64 <<< (v).toNat)))) (j:Int)))) ?_))))))))))))
      rintro _ _ ⟨_,_,⟨rfl,rfl⟩,rfl,rfl⟩
      refine ⟨A3,?_⟩
      refine Dr 8 C (E8 (a:=e_ (List.set bks1 (e_ dgs1 (e_ (eo ((e_ (ek nd es) v) &&& (left &&& ~~~(1#64 <<< (v).toNat)))) (j:Int))).toNat ((e_ bks1 (e_ dgs1 (e_ (eo ((e_ (ek nd es) v) &&& (left &&& ~~~(1#64 <<< (v).toNat)))) (j:Int)))) &&& ~~~(bitB (e_ (eo ((e_ (ek nd es) v) &&& (left &&& ~~~(1#64 <<< (v).toNat)))) (j:Int))))) (e_ (List.set dgs1 (e_ (eo ((e_ (ek nd es) v) &&& (left &&& ~~~(1#64 <<< (v).toNat)))) (j:Int)).toNat ((e_ dgs1 (e_ (eo ((e_ (ek nd es) v) &&& (left &&& ~~~(1#64 <<< (v).toNat)))) (j:Int))) - 1)) (e_ (eo ((e_ (ek nd es) v) &&& (left &&& ~~~(1#64 <<< (v).toNat)))) (j:Int)))) (b:=bitB (e_ (eo ((e_ (ek nd es) v) &&& (left &&& ~~~(1#64 <<< (v).toNat)))) (j:Int))) C C) (Dr 9 C (Cb Cy ty175 C C om oo) (C0 kr ?_))
      refine Ae 10 C (Eff.setAU (xs:=List.set bks1 (e_ dgs1 (e_ (eo ((e_ (ek nd es) v) &&& (left &&& ~~~(1#64 <<< (v).toNat)))) (j:Int))).toNat ((e_ bks1 (e_ dgs1 (e_ (eo ((e_ (ek nd es) v) &&& (left &&& ~~~(1#64 <<< (v).toNat)))) (j:Int)))) &&& ~~~(bitB (e_ (eo ((e_ (ek nd es) v) &&& (left &&& ~~~(1#64 <<< (v).toNat)))) (j:Int))))) (i:=e_ (List.set dgs1 (e_ (eo ((e_ (ek nd es) v) &&& (left &&& ~~~(1#64 <<< (v).toNat)))) (j:Int)).toNat ((e_ dgs1 (e_ (eo ((e_ (ek nd es) v) &&& (left &&& ~~~(1#64 <<< (v).toNat)))) (j:Int))) - 1)) (e_ (eo ((e_ (ek nd es) v) &&& (left &&& ~~~(1#64 <<< (v).toNat)))) (j:Int))) (n:=(e_ (List.set bks1 (e_ dgs1 (e_ (eo ((e_ (ek nd es) v) &&& (left &&& ~~~(1#64 <<< (v).toNat)))) (j:Int))).toNat ((e_ bks1 (e_ dgs1 (e_ (eo ((e_ (ek nd es) v) &&& (left &&& ~~~(1#64 <<< (v).toNat)))) (j:Int)))) &&& ~~~(bitB (e_ (eo ((e_ (ek nd es) v) &&& (left &&& ~~~(1#64 <<< (v).toNat)))) (j:Int))))) (e_ (List.set dgs1 (e_ (eo ((e_ (ek nd es) v) &&& (left &&& ~~~(1#64 <<< (v).toNat)))) (j:Int)).toNat ((e_ dgs1 (e_ (eo ((e_ (ek nd es) v) &&& (left &&& ~~~(1#64 <<< (v).toNat)))) (j:Int))) - 1)) (e_ (eo ((e_ (ek nd es) v) &&& (left &&& ~~~(1#64 <<< (v).toNat)))) (j:Int)))) ||| (bitB (e_ (eo ((e_ (ek nd es) v) &&& (left &&& ~~~(1#64 <<< (v).toNat)))) (j:Int)))) ty175 C C C om oo am) ?_
      rintro _ _ ⟨rfl,rfl⟩
      refine C1 kr ?_
      exact Ak (Aj (Aq (S10 2 3 4 5 6 9 10 90 91 92 C C C C C C C C C C) (Ax (Gr (Rad C C) (Gm C (Bi (B5 ((j+1),(List.set dgs1 (e_ (eo ((e_ (ek nd es) v) &&& (left &&& ~~~(1#64 <<< (v).toNat)))) (j:Int)).toNat ((e_ dgs1 (e_ (eo ((e_ (ek nd es) v) &&& (left &&& ~~~(1#64 <<< (v).toNat)))) (j:Int))) - 1)),(List.set (List.set bks1 (e_ dgs1 (e_ (eo ((e_ (ek nd es) v) &&& (left &&& ~~~(1#64 <<< (v).toNat)))) (j:Int))).toNat ((e_ bks1 (e_ dgs1 (e_ (eo ((e_ (ek nd es) v) &&& (left &&& ~~~(1#64 <<< (v).toNat)))) (j:Int)))) &&& ~~~(bitB (e_ (eo ((e_ (ek nd es) v) &&& (left &&& ~~~(1#64 <<< (v).toNat)))) (j:Int))))) (e_ (List.set dgs1 (e_ (eo ((e_ (ek nd es) v) &&& (left &&& ~~~(1#64 <<< (v).toNat)))) (j:Int)).toNat ((e_ dgs1 (e_ (eo ((e_ (ek nd es) v) &&& (left &&& ~~~(1#64 <<< (v).toNat)))) (j:Int))) - 1)) (e_ (eo ((e_ (ek nd es) v) &&& (left &&& ~~~(1#64 <<< (v).toNat)))) (j:Int))).toNat ((e_ (List.set bks1 (e_ dgs1 (e_ (eo ((e_ (ek nd es) v) &&& (left &&& ~~~(1#64 <<< (v).toNat)))) (j:Int))).toNat ((e_ bks1 (e_ dgs1 (e_ (eo ((e_ (ek nd es) v) &&& (left &&& ~~~(1#64 <<< (v).toNat)))) (j:Int)))) &&& ~~~(bitB (e_ (eo ((e_ (ek nd es) v) &&& (left &&& ~~~(1#64 <<< (v).toNat)))) (j:Int))))) (e_ (List.set dgs1 (e_ (eo ((e_ (ek nd es) v) &&& (left &&& ~~~(1#64 <<< (v).toNat)))) (j:Int)).toNat ((e_ dgs1 (e_ (eo ((e_ (ek nd es) v) &&& (left &&& ~~~(1#64 <<< (v).toNat)))) (j:Int))) - 1)) (e_ (eo ((e_ (ek nd es) v) &&& (left &&& ~~~(1#64 <<< (v).toNat)))) (j:Int)))) ||| (bitB (e_ (eo ((e_ (ek nd es) v) &&& (left &&& ~~~(1#64 <<< (v).toNat)))) (j:Int)))))) (by dsimp only;exact ⟨om,(by have hN:=hB1.lower om (w:=(e_ (eo (e_ (ek nd es) v &&& (left &&& ~~~(1#64 <<< (v).toNat)))) (j:Int))) (e:=e_ dgs1 (e_ (eo (e_ (ek nd es) v &&& (left &&& ~~~(1#64 <<< (v).toNat)))) (j:Int))) hwm.1 hdeg0.symm om om (dg':=degM (ek nd es) left (eo (e_ (ek nd es) v &&& (left &&& ~~~(1#64 <<< (v).toNat)))) (j+1)) (λu _=>degM_succ om (Ee _) u);rw [hset2,bit_sh om om];exact hN)⟩))))))))
     ·exact Bv (Al (Al (A5 (Aj (Bv (B6 C (Al (Al (B6 C (A5 (B5 ((done++[(v,max kk dd)]),((left &&& ~~~(1#64 <<< (v).toNat))),(max kk dd),(dgs1),(bks1),(ad10),(cp11)) (by dsimp only;exact ⟨(core_step hc hTk om),(hB1.congr (λu=>Iff.rfl) (λu hu=>by have hr:=hB1.rng u hu;exact (degM_all hS om om hvm hr.1 hr.2 hu om).symm)),(by have:=listB_minus hvm;simp only [List.length_append,List.length_cons,List.length_nil];omega),om⟩) (hlt:=by (try dsimp only);exact (by have:=listB_minus hvm;omega)) (hL:=(Aa (Dl C (by first|rfl|(rw [ordL_snoc])|simp)) (Aa C (Aa C (Aa C (Aa C (Aa (Dl C (by first|rfl|(rw [ordL_snoc])|simp)) (Aa C Bp)))))))) (hI:=by (try dsimp only);exact (by rw [ordL_snoc,numL_snoc];exact B7)))))))))))))
   ·exact (hB2.some (Classical.not_not.1 (λh=>h asm)) hdg64 (λc h1 h2=>hz c h1 om)).elim
  ·refine Bv (Al (Al (A5 (Aj (Ai (Gm C (Gm C (Ga C (Ga C (Af (A2 (V.jump_ret ?_))))))))))))
   have hl0:left=0#64:=Classical.not_not.1 c50
   have hdn:done=coreR0 nd es:=by rw [←hc,hl0,coreR_zero,List.append_nil]
   subst hdn
   have hcl:=coreL_len nd es
   exact Cu C C C (vc 3 (.slice ao (coreO nd es).length co) (coreO nd es)::vc 3 (.slice ad7 (coreL nd es).length cp8) (coreL nd es)::I) (by rw [hcl];simp only [List.length_replicate];exact B7) ⟨ao,co,ad7,cp8,by rw [hcl];simp only [List.length_replicate];rfl,rfl⟩
variable {κ:Ctx}{I:List Item}
theorem CNumbers_ok{nd:Int}{va:Value}{es:List Pt}(hl:Sl κ I va es)(hT:TabRd κ I 0 tzCells):eu Tryz.prog κ 104 [.agg #[e7 nd,va]] I (λr J=>∃a c,r = .tuple #[.slice a (coreN nd es).length c,e7 (checkG nd es)]/\J=vc 3 (.slice a (coreN nd es).length c) (coreN nd es)::I):=by
 refine Ce1 Tryz.func104 C C ?_
 refine Ai (Ge1 (A9 (cs:=[_,_]) C C C) λb1=>Ga C (Ga C (Af (Ap (Ai (Gl2 ty48 ?_))))))
 refine Gc0 (Ah call83 C C (CheckGen_ok (Ba hl))) ?_
 refine Ga C (Af (Ai (Gm C (Gr (Br C C) (Af (A8 C (λc10=>?_) (λc10=>?_)))))))
 ·refine Ai (Gm C (Ga C (Ga C (Af (A2 (Am ?_))))))
  have hX:(coreN nd es)=[]:=if_pos c10
  exact Cu C C C (vc 3 (.slice none (coreN nd es).length 0) (coreN nd es)::I) (by rw [hX];exact Cn (show Fit κ _ I from A3) (B2 (α:=Int) _ _)) ⟨none,0,by rw [hX];rfl,rfl⟩
 ·refine Ay (Aj (Ai (Gl2 ty48 ?_)))
  refine G.e (Ah call175 C C (CPeel_ok (nd:=nd) (Ba hl) (checkG_ok.1 (Classical.not_not.1 c10)) (Bx hT A3))) ?_
  rintro _ _ ⟨_,_,⟨ad2,cp3,ad4,cp5,rfl,rfl⟩,rfl,rfl⟩
  refine Gm C (Gr (Aw C C) (Gr (Aw C C) (Ga C (Ga C (Af (Aq (S1 6 C) (Ai (Gm C (Ga C (Ga C (Af (A2 ?_))))))))))))
  have hX:(coreN nd es)=_:=if_neg c10
  have hz:checkG nd es=0:=Classical.not_not.1 c10
  exact Cu C C C (vc 3 (.slice ad4 (coreN nd es).length cp5) (coreN nd es)::I) (by rw [hX];exact A1) ⟨ad4,cp5,by rw [hX,hz]<;>rfl,rfl⟩
theorem coreN_len(nd:Int)(es:List Pt):(coreN nd es).length<=64:=by
 unfold coreN
 split
 ·simp
 ·rw [coreL_len,rowsB_len];omega
theorem CCore_ok{nd lv:Int}{va:Value}{es:List Pt}(hl:Sl κ I va es)(hT:TabRd κ I 0 tzCells):eu Tryz.prog κ 109 [.agg #[e7 nd,va],e7 lv] I (λr J=>∃a c,r = .tuple #[.slice a (coreK nd es lv).length c,e7 (checkG nd es)]/\J=vc 3 (.slice a (coreK nd es lv).length c) (coreK nd es lv)::I):=by
 have hnl0:=coreN_len nd es
 refine Ce2 Tryz.func109 C C ?_
 refine Ai (Ge1 (A9 (cs:=[_,_]) C C C) λb1=>Ga C (Ga C (Af (Ai (Gl2 ty48 ?_)))))
 refine Gc2 (Ah call104 C C (CNumbers_ok (nd:=nd) (Ba hl) (Bx hT A3))) λad2 cp3=>?_
 refine Gm C (Gr (Aw C C) (Gr (Aw C C) (Ga C (Ga C (Af (Ai (Ga C (Af (Ap (Ai (Gm C (Gr (Bs Ac C) (Gm C (Af (Aq (S6 18 17 16 8 7 1 C C C C C C) (A0 (B1 (σ:=Nat×(Option Addr)×Nat×(List Int)) (λs=>([(1,e7 lv),(7,e7 (checkG nd es)),(8,.slice s.2.1 s.2.2.2.length s.2.2.1),(16,.slice ad2 (coreN nd es).length cp3),(17,e7 ((((coreN nd es).length:Nat):Int))),(18,e7 ((s.1:Nat):Int))]:Env)) (λs=>vc 3 (.slice s.2.1 s.2.2.2.length s.2.2.1) (s.2.2.2)::vc 3 (.slice ad2 (coreN nd es).length cp3) (coreN nd es)::e8 b1 [e7 nd,va] 48::I) (λs=>(s.1<=(coreN nd es).length)/\(s.2.2.2=sideL s.1 (λv=>decide (lv<=e_ (coreN nd es) v)))) (λs=>(coreN nd es).length - s.1) (0,none,0,[]) (show ((0:Nat)<=(coreN nd es).length)/\(([]:List Int)=sideL (0:Nat) (λv=>decide (lv<=e_ (coreN nd es) v))) from ⟨om,rfl⟩) (Aa C (Aa C (Aa (Dl C (by first|rfl|simp)) (Aa C (Aa C (Aa Ca Bp)))))) (show Fit κ _ (vc 3 (.slice none ([]).length 0) (([]))::vc 3 (.slice ad2 (coreN nd es).length cp3) (coreN nd es)::e8 b1 [e7 nd,va] 48::I) from (B2 _ _)) ?_)))))))))))))))))
 rintro ⟨k,a,c,out⟩ hp
 dsimp only at hp ⊢
 obtain ⟨hk,ho⟩:=hp
 have hol:out.length<=k:=by rw [ho];exact sideL_len _ _
 have hnl:=coreN_len nd es
 refine Ai (Gr (A7 C C) (Af (Ap (A8 C (λc19=>?_) (λc19=>?_)))))
 ·refine Ay (Aj (Ap (A0 (Ai (Gm C (Gr (Az (α:=Int) (xs:=coreN nd es) Ac ef C C Bk om om) (Gr (Bo (xs:=coreN nd es) ef C Bk om om) (Ga C (Ga C (Af (Ai (Gm C (Gm C (Gr (B9 C C) (Af (Aq (S8 25 9 1 7 8 16 17 18 C C C C C C C C) (A8 C (λc25=>?_) (λc25=>?_))))))))))))))))))
  ·refine Ax (Gm C (Gm C (Ge1 (Cf (α:=Int) (cs:=[_]) (xs:=[(k:Int)]) Ac ef C C dc dc C C C C) λad4=>?_)))
   refine Ge2 (Cm (α:=Int) (e:=3) (xs:=out) (ys:=([(k:Int)]:List Int)) Ac ef C C C mm Bk lcn dc C (λ_ _=>am)) λad5 cp6=>?_
   exact Ga C (Bi (Ak (Aj (Ax (Gr (Rad C C) (Gm C (Bi (B5 ((k+1),(ad5),(cp6),(out++([(k:Int)]:List Int))) (by dsimp only;exact ⟨om,(by first|(rw [sideL_yes (decide_eq_true asm),←ho])|(rw [sideL_no (decide_eq_false asm),←ho]))⟩)))))))))
  ·exact Ay (Ak (Aj (Ax (Gr (Rad C C) (Gm C (Bi (B5 ((k+1),(a),(c),(out)) (by dsimp only;exact ⟨om,(by first|(rw [sideL_yes (decide_eq_true asm),←ho])|(rw [sideL_no (decide_eq_false asm),←ho]))⟩))))))))
 ·refine Bv (Al (Al (A5 (Aj (Ai (Gm C (Gm C (Ga C (Ga C (Af (A2 ?_)))))))))))
  have hE:out=(coreK nd es lv):=by rw [ho,show k=(coreN nd es).length by omega];rfl
  exact Cu C C C (vc 3 (.slice a (coreK nd es lv).length c) (coreK nd es lv)::I) (by rw [←hE];exact A1) ⟨a,c,by rw [←hE],rfl⟩
structure BothP (n:Net) (f:List Int) (side:List Bool):Prop where
 flow:IsFlow n f
 len:(side.length:Int)=n.nodes
 great:∃T,Great n f T/\∀z:Int,0<=z->z<n.nodes->e_ side z=T z
set_option maxHeartbeats 1000000 in
theorem Both_ok{κ:Ctx}{I:List Item}{n:Net}{v:Value}(hl:Sl κ I v n.arcs)(hok:n.Ok):eu Tryz.prog κ 282 [.agg #[e7 (n.nodes),e7 (n.source),e7 (n.sink),v]] I (λr J=>∃a c f a' c' side val,r = .tuple #[.slice a f.length c,e7 val,.slice a' side.length c']/\BothP n f side/\J=vc 4 (.slice a' side.length c') side::vc 3 (.slice a f.length c) f::I):=by
 have hlim:=hok.lim
 have hsnk:=hok.snk
 have hsrc:=hok.src
 refine Ce1 Tryz.func282 C C ?_
 refine Ai (Ge1 (A9 (cs:=[_,_,_,_]) C C C) λb1=>Ga C (Ga C (Ga C (Af (Ai (Gl4 ty303 ?_))))))
 refine G.e (Ah call317 C C (Solved_ok (n:=n) (Ba hl) hok)) ?_
 rintro _ _ ⟨_,_,⟨b,hw,ow,lw,nw,f,hs,rs,L,nx,val,rfl,⟨hfull,hh,hr⟩,rfl⟩,rfl,rfl⟩
 refine G.fit (J:=e8 b [hw,ow,lw,nw,e7 (n.sink)] 339::vc 336 hw (hs)::vc 3 lw (L)::vc 3 nw (nx)::vc 22 ow (rs)::e8 b1 [e7 (n.nodes),e7 (n.source),e7 (n.sink),v] 303::(rowsI rs++I)) B7 ?_
 refine Gm C (Gr (Aw C C) (Gr (Aw C C) (Ga C (Ga C (Af (Ap (Ai (Gf fld303_3 C ?_))))))))
 have hff:=hfull.flow.len
 have hhl:=hh.len
 refine Gl ty301 ?_
 refine Gr (B0 (α:=Arc) (xs:=n.arcs) Dt C (Ba hl)) (Gm C (Af (Aq (S7 17 16 15 3 5 2 1 C C C C C C C) (A0 (B1 (σ:=Nat×(Option Addr)×Nat×(List Int)) (λs=>([(1,.pointer (some ⟨b1,0,none⟩)),(2,.slice s.2.1 s.2.2.2.length s.2.2.1),(3,e7 val),(5,.pointer (some ⟨b,0,none⟩)),(15,v),(16,e7 ((n.arcs.length:Nat):Int)),(17,e7 ((s.1:Nat):Int))]:Env)) (λs=>vc 3 (.slice s.2.1 s.2.2.2.length s.2.2.1) (s.2.2.2)::e8 b [hw,ow,lw,nw,e7 (n.sink)] 339::vc 336 hw (hs)::vc 3 lw (L)::vc 3 nw (nx)::vc 22 ow (rs)::e8 b1 [e7 (n.nodes),e7 (n.source),e7 (n.sink),v] 303::(rowsI rs++I)) (λs=>(s.1<=n.arcs.length)/\(s.2.2.2=f.take s.1)) (λs=>n.arcs.length - s.1) (0,none,0,[]) (show ((0:Nat)<=n.arcs.length)/\(([]:List Int)=f.take (0:Nat)) from ⟨om,rfl⟩) (Aa C (Aa (Dl C (by first|rfl|simp)) (Aa C (Aa C (Aa C (Aa C (Aa Ca Bp))))))) (show Fit κ _ (vc 3 (.slice none ([]).length 0) (([]))::e8 b [hw,ow,lw,nw,e7 (n.sink)] 339::vc 336 hw (hs)::vc 3 lw (L)::vc 3 nw (nx)::vc 22 ow (rs)::e8 b1 [e7 (n.nodes),e7 (n.source),e7 (n.sink),v] 303::(rowsI rs++I)) from (B2 _ _)) ?_)))))
 rintro ⟨k,a,c,fl⟩ hp
 dsimp only at hp ⊢
 obtain ⟨hk,hfl⟩:=hp
 have hfll:fl.length=k:=by rw [hfl,List.length_take];omega
 refine Ai (Gr (A7 C C) (Af (Ap (A8 C (λc18=>?_) (λc18=>?_)))))
 ·refine Ay (Aj (Ap (A0 (Ai (Gm C (Gr (Az (α:=Arc) (xs:=n.arcs) Dt ty305 C C (Ba hl) om oo) (Gr (Bz (α:=Arc) (xs:=n.arcs) ty305 C (Ba hl) om oo) (Ge1 (Au ty305 C) λb2=>Ga C (Ge0 (Es3_3 ty305) ?_)))))))))
  have hgt:=hh.get (2*(k:Int)) ⟨by omega,by omega⟩
  have hcap:=hfull.flow.cap k om
  have hac:=arc_at hok (k:=k) om
  have hlv:leftH n f (2*(k:Int))=(e_ n.arcs k).cap - e_ f k:=by unfold leftH;rw [if_pos om,show (2*(k:Int)) / 2=(k:Int) from by omega]
  have hleft:(e_ n.arcs k).cap - (e_ hs (2*(k:Int))).left=e_ f k:=by omega
  refine Af (Bl mixed (Bt (e8 b2 [e7 ((e_ n.arcs k).frm),e7 ((e_ n.arcs k).dst),e7 ((e_ n.arcs k).cap)] 305::e8 b [hw,ow,lw,nw,e7 (n.sink)] 339::vc 336 hw (hs)::vc 3 lw (L)::vc 3 nw (nx)::vc 22 ow (rs)::e8 b1 [e7 (n.nodes),e7 (n.source),e7 (n.sink),v] 303::(rowsI rs++I)) 16 (Dr 0 C (Ad C) (Dr 1 C (Ab fld305_2 C) (Dr 2 C (As ef) ?_)))))
  refine Dr 3 C (Ad C) (Dr 4 C (Bm C) (Dr 5 C (Ab fld339_0 C) (Dr 6 C (As ty337) ?_)))
  refine Dr 7 C (Ad C) (Dr 8 C (Em C C (by unfold InR;omega)) (Dr 9 C (Az (α:=Half) (xs:=hs) Ci ty336 C C Bk om oo) (Dr 10 C (Ef (α:=Half) (xs:=hs) fld336_1 C Bk oo) (Dr 11 C (Et (α:=Half) (xs:=hs) (u:=e7 ((e_ hs (2*(k:Int))).left)) ef C Bk om oo C) (Dr 12 C (Rsu C C) (Ds1 13 (Se1 C (Cf (α:=Int) (cs:=[_]) (xs:=[((e_ n.arcs k).cap) - ((e_ hs (2*(k:Int))).left)]) Ac ef C C dc dc C C C C) λad3=>?_)))))))
  refine Ds1 14 (Se2 C (Cm (α:=Int) (e:=3) (xs:=fl) (ys:=([((e_ n.arcs k).cap) - ((e_ hs (2*(k:Int))).left)]:List Int)) Ac ef C C C mm Bk lcn dc C (λ_ _=>am)) λad4 cp5=>?_)
  exact Dr 15 C (Bb C) (Dz (Ak (Aj (Aq (S7 2 1 3 5 15 16 17 C C C C C C C) (Ax (Gr (Rad C C) (Gm C (Bi (B5 ((k+1),(ad4),(cp5),(fl++([((e_ n.arcs k).cap) - ((e_ hs (2*(k:Int))).left)]:List Int))) (by dsimp only;exact ⟨om,(by rw [hfl,C6 f k om];congr 1;rw [hleft])⟩))))))))))
 ·refine Bv (Al (Al (A5 (Aj (Ai (Gm C ?_))))))
  have hkm:k=n.arcs.length:=by omega
  have hfe:fl=f:=by rw [hfl,hkm,←hff,List.take_length]
  refine Gf fld303_2 C (Gl ef ?_)
  refine G.e (Ah call318 C C (Db (J:=e8 b [hw,ow,lw,nw,e7 (n.sink)] 339::vc 3 (.slice a fl.length c) (fl)::vc 336 hw (hs)::vc 3 lw (L)::vc 3 nw (nx)::vc 22 ow (rs)::e8 b1 [e7 (n.nodes),e7 (n.source),e7 (n.sink),v] 303::(rowsI rs++I)) B7 (Reached_ok (n:=n) (rs:=rs) (hs:=hs) hok hh Bk hr Bk (λi h0 h=>Cv (rowsI_sl i h0 h) A3) om))) ?_
  rintro _ _ ⟨_,_,⟨ad6,cp7,seen8,rfl,hseen8,rfl⟩,rfl,rfl⟩
  show G Tryz.prog κ _ _ _ _ ([(41,.slice ad6 seen8.length cp7),(40,e7 (n.sink)),(39,.pointer (some ⟨b1,2,none⟩)),(38,.pointer (some ⟨b,0,none⟩)),(18,.bool (decide ((k:Int)<((n.arcs.length:Nat):Int)))),(1,.pointer (some ⟨b1,0,none⟩)),(2,.slice a fl.length c),(3,e7 val),(5,.pointer (some ⟨b,0,none⟩)),(15,v),(16,e7 ((n.arcs.length:Nat):Int)),(17,e7 ((k:Int)))]:Env) (vc 4 (.slice ad6 seen8.length cp7) (seen8)::e8 b [hw,ow,lw,nw,e7 (n.sink)] 339::vc 3 (.slice a fl.length c) (fl)::vc 336 hw (hs)::vc 3 lw (L)::vc 3 nw (nx)::vc 22 ow (rs)::e8 b1 [e7 (n.nodes),e7 (n.source),e7 (n.sink),v] 303::(rowsI rs++I))
  have hlenseen8:=hseen8.len
  refine Ga C (Af (Ap (Ai (Gm C (Gr (Bs Co C) (Gm C (Af (Aq (S5 44 43 4 2 3 C C C C C) (A0 (B1 (σ:=Nat×(List Bool)) (λs=>([(2,.slice a fl.length c),(3,e7 val),(4,.slice ad6 seen8.length cp7),(43,e7 ((seen8.length:Nat):Int)),(44,e7 ((s.1:Nat):Int))]:Env)) (λs=>vc 4 (.slice ad6 seen8.length cp7) (s.2)::e8 b [hw,ow,lw,nw,e7 (n.sink)] 339::vc 3 (.slice a fl.length c) (fl)::vc 336 hw (hs)::vc 3 lw (L)::vc 3 nw (nx)::vc 22 ow (rs)::e8 b1 [e7 (n.nodes),e7 (n.source),e7 (n.sink),v] 303::(rowsI rs++I)) (λs=>(s.1<=seen8.length)/\(s.2.length=seen8.length)/\(∀i:Nat,i<seen8.length->e_ s.2 i=if i<s.1 then !e_ seen8 i else e_ seen8 i)) (λs=>seen8.length - s.1) (0,seen8) (show ((0:Nat)<=seen8.length)/\((seen8:List Bool).length=seen8.length)/\(∀i:Nat,i<seen8.length->e_ (seen8:List Bool) i=if i<(0:Nat) then !e_ seen8 i else e_ seen8 i) from ⟨om,rfl,(λi h=>by rw [if_neg om])⟩) (Aa C (Aa C (Aa C (Aa C (Aa Ca Bp))))) (show Fit κ _ (vc 4 (.slice ad6 seen8.length cp7) ((seen8))::e8 b [hw,ow,lw,nw,e7 (n.sink)] 339::vc 3 (.slice a fl.length c) (fl)::vc 336 hw (hs)::vc 3 lw (L)::vc 3 nw (nx)::vc 22 ow (rs)::e8 b1 [e7 (n.nodes),e7 (n.source),e7 (n.sink),v] 303::(rowsI rs++I)) from A1) ?_))))))))))
  rintro ⟨k,sd⟩ hp
  dsimp only at hp ⊢
  obtain ⟨hk,hsl,hsd⟩:=hp
  refine Ai (Gr (A7 C C) (Af (Ap (A8 C (λc45=>?_) (λc45=>?_)))))
  ·refine Ay (Aj (Ap (A0 (Ai (Gm C (Ga C (Af (Ax (Gm C (Gm C (Gm C (Gm C (Gr (Az (α:=Bool) (xs:=sd) Co ty4 C C Bk om oo) (Gr (Runs.getB (xs:=sd) ty4 C Bk om oo) (Gr (B4 C) (Gr (Az (α:=Bool) (xs:=sd) Co ty4 C C Bk om oo) (Ge0 (Cx (α:=Bool) (xs:=sd) (e:=4) (new:= !e_ sd k) ty4 C C C om oo am) ?_)))))))))))))))))
   exact Bi (Ak (Aj (Aq (S5 2 3 4 43 44 C C C C C) (Ax (Gr (Rad C C) (Gm C (Bi (B5 ((k+1),(List.set sd ((k:Int)).toNat (!e_ sd k))) (by dsimp only;exact ⟨om,(by rw [List.length_set];exact hsl),(λi h=>by rw [C8 _ _ _ _ om om om];by_cases e:i=k;(· subst e;rw [if_pos rfl,if_pos om,hsd i h,if_neg om]);(· rw [if_neg om,hsd i h];by_cases h2:i<k;(· rw [if_pos h2,if_pos om]);(· rw [if_neg h2,if_neg om])))⟩)))))))))
  ·refine Bv (Al (Al (A5 (Aj (Ai (Gm C (Gm C (Gm C (Ga C (Ga C (Ga C (Af (A2 ?_)))))))))))))
   subst hfe
   exact V.ret3 C C C C (vc 4 (.slice ad6 sd.length cp7) sd::vc 3 (.slice a fl.length c) fl::I) (by rw [hsl];exact B7) ⟨a,c,fl,ad6,cp7,sd,val,by rw [hsl],⟨hfull.flow,by omega,_,hseen8.great hok hfull,λz h0 h1=>by obtain ⟨i,rfl⟩:∃i:Nat,z=(i:Int):=⟨z.toNat,om⟩;rw [hsd i om,if_pos om]⟩,rfl⟩
end Go.Sl
