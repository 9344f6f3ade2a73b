/- A part of the proofs of statements of this seat: contracts of functions, and the plain laws that they lean on. No conditions. -/
import Derived.Test.YtfkcohmipjhfcaaGreatDoorW13
import Derived.Test.YtfkcohmipjhfcaaGreatDoorW12
set_option linter.unusedVariables false
set_option linter.unusedSimpArgs false
set_option linter.unusedSectionVars false
open Go.Proofs.Tryz (prog)
open List (replicate)
namespace Go.Sl
open Go.Proofs
set_option maxRecDepth 4000
def coreR0(nd:Int)(es:List Pt):List (Int×Nat):=coreR (ek nd es) (allB ((ek nd es).length:Int)) 0
def coreL(nd:Int)(es:List Pt):List Int:=numL (ek nd es).length (coreR0 nd es)
def coreO(nd:Int)(es:List Pt):List Int:=ordL (coreR0 nd es)
def coreN(nd:Int)(es:List Pt):List Int:=if checkG nd es≠0 then [] else coreL nd es
def coreK(nd:Int)(es:List Pt)(k:Int):List Int:=sideL (coreN nd es).length λv=>decide (k<=e_ (coreN nd es) v)
theorem mem_allN{n:Nat}(h:n<=64){u:Int}:u∈eo (allB (n:Int))↔0<=u/\u<n:=by
 constructor
 ·intro hu
  have hr:=Fd hu
  rw [El,getLsb_allB om om om,decide_eq_true_eq] at hu
  omega
 ·intro hu
  rw [El,getLsb_allB om om om,decide_eq_true_eq]
  omega
theorem coreL_len(nd:Int)(es:List Pt):(coreL nd es).length=(ek nd es).length:=numL_len _ _
theorem ordL_len(l:List (Int×Nat)):(ordL l).length=l.length:=List.length_map ..
theorem bit_sh{v:Int}(h0:0<=v)(h1:v<64):bitB v=1#64 <<< v.toNat:=by unfold bitB;rw [if_neg om]
theorem deg_full{n:Nat}{rows:List (BitVec 64)}(h:SymB n rows){k:Int}(h0:0<=k)(h1:k<n):onesB (e_ rows k)=((degB rows (allB (n:Int)) k:Nat):Int):=by
 rw [ones_pop]
 unfold degB
 congr 1
 refine ((List.perm_ext_iff_of_nodup (D9 _) (D9 _)).2 λu=>?_).length_eq
 rw [mem_andB]
 refine ⟨λhu=>⟨hu,(mem_allN h.le).2 ⟨(Fd hu).1,h.lt k u h0 h1 hu⟩⟩,λhu=>hu.1⟩
theorem rows_sym{nd:Int}{es:List Pt}(hG:GrOk nd es):SymB (ek nd es).length (ek nd es):=by
 have h:=hG.rows.symB hG
 have e:=h.len
 rw [←e] at h;exact h
theorem core_step{rows:List (BitVec 64)}{left:BitVec 64}{kk dd:Nat}{v:Int}{done:List (Int×Nat)}{all:List (Int×Nat)}(hc:done++coreR rows left kk=all)(hT:Takes rows left v)(hd:degB rows left v=dd) :
  (done++[(v,max kk dd)])++coreR rows (left &&& ~~~(1#64 <<< v.toNat)) (max kk dd)=all:=by
 rw [←hc,coreR_step hT,hd,List.append_assoc];rfl
theorem cnt_allN{n:Nat}(h:n<=64):(eo (allB (n:Int))).length=n:=by
 have hp:(eo (allB (n:Int))).Perm ((List.range n).map fun (i:Nat)=>(i:Int)):=(List.perm_ext_iff_of_nodup (D9 _) (by
  exact List.Pairwise.map _ (λa b h=>by omega) (List.nodup_range (n:=n)))).2 λu=>by
  rw [mem_allN h,List.mem_map]
  constructor
  ·intro hu;exact ⟨u.toNat,List.mem_range.2 om,by omega⟩
  ·rintro ⟨i,hi,rfl⟩;have:=List.mem_range.1 hi;omega
 have:=hp.length_eq
 rwa [List.length_map,List.length_range] at this
set_option maxHeartbeats 2000000 in
theorem CPeel_ok{κ:Ctx}{I:List Item}{nd:Int}{va:Value}{es:List Pt}(hl:Sl κ I va es)(hG:GrOk nd es)(hT:TabRd κ I 0 tzCells):eu prog κ 175 [.agg #[e7 nd,va]] I (λr J=>∃a c a' c',r = .tuple #[.slice a (coreO nd es).length c,.slice a' (coreL nd es).length c']/\J=vc 3 (.slice a (coreO nd es).length c) (coreO nd es)::vc 3 (.slice a' (coreL nd es).length c') (coreL nd es)::I):=by
 have hS:=rows_sym hG
 have hS64:=hS.le
 refine Ce1 Tryz.func175 C C ?_
 refine Aj (Ge1 (Bg (cs:=[_,_]) C C C) λb1=>Ga C (Ga C (Ah (W.scope0 (l:=0) C ?_))))
 refine Aj (Gl2 ty48 ?_)
 refine G.e (Am call198 C C (MRows_ok (nd:=nd) (Bj hl))) ?_
 rintro _ _ ⟨_,_,⟨ad2,cp3,rfl,rfl⟩,rfl,rfl⟩
 have hrwad2:=rowsB_len nd es
 refine Ga C (Ah (Aj (Ge1 (A9 ty264 C) λb4=>?_)))
 refine Ah (Aj (Gm C (Gr (Bz B6 C) (Ge2 (Cw (α:=Int) (n:=(ek nd es).length) Ad ef C C C om om dc C) λad5 cp6=>?_))))
 refine Ga C (Ah (Au (Aj (Gm C (Gr (Bz B6 C) (Gm C (Ah (Av (S7 22 21 20 6 5 4 2 C C C C C C C) (A6 (Ca (σ:=Nat×(List Int)×(List (BitVec 64))) (λs=>([(2,.slice none 0 0),(4,.slice ad2 (ek nd es).length cp3),(5,.pointer (some ⟨b4,0,none⟩)),(6,.slice ad5 (replicate ((ek nd es).length) (default:Int)).length cp6),(20,.slice ad2 (ek nd es).length cp3),(21,e7 ((((ek nd es).length:Nat):Int))),(22,e7 ((s.1:Nat):Int))]:Env)) (λs=>vc 3 (.slice ad5 (replicate ((ek nd es).length) (default:Int)).length cp6) (s.2.1)::e8 b4 (cells (s.2.2:List (BitVec 64))) 264::vc 175 (.slice ad2 (ek nd es).length cp3) (ek nd es)::e8 b1 [e7 nd,va] 48::I) (λs=>(s.1<=(ek nd es).length)/\(BkOk (ek nd es).length (λu=>0<=u/\u<((s.1:Nat):Int)) (degB (ek nd es) (allB ((ek nd es).length:Int))) s.2.1 s.2.2)) (λs=>(ek nd es).length - s.1) (0,replicate ((ek nd es).length) (default:Int),replicate 64 (0#64)) ⟨om,(BkOk.start _ _)⟩ (Aa C (Aa C (Aa C (Aa C (Aa C (Aa C (Aa Cr Bq))))))) A5 ?_))))))))))
 rintro ⟨k,dgs,bks⟩ hp
 dsimp only at hp ⊢
 obtain ⟨hk,hB⟩:=hp
 have hdl:=hB.dlen
 have hbl:=hB.blen
 have hon:k<(ek nd es).length->onesB (e_ (ek nd es) k)=((degB (ek nd es) (allB ((ek nd es).length:Int)) (k:Int):Nat):Int):=λh=>deg_full hS om om
 have hd64:k<(ek nd es).length->((degB (ek nd es) (allB ((ek nd es).length:Int)) (k:Int):Nat):Int)<64:=λh=>by have:=degB_lt hS (allB ((ek nd es).length:Int)) (v:=(k:Int)) om om;omega
 refine Aj (Gr (Bi C C) (Ah (Au (Bd C (λc23=>?_) (λc23=>?_)))))
 ·refine A4 (Ai (Au (A6 (Aj (Gm C (Gr (A2 (α:=(BitVec 64)) (xs:=ek nd es) B6 ty175 C C Bk om oo) (Gr (Ct (α:=(BitVec 64)) (xs:=ek nd es) (u:=U64 ((e_ (ek nd es) k))) ty175 C Bk om oo C) (Ga C (Ga C (Ah (Aj (Gm C (Gm C (Gm C (Gc0 (Am call219 C C (MCount_ok (e_ (ek nd es) k))) ?_)))))))))))))))
  refine Gr (A2 (α:=Int) (xs:=dgs) Ad ef C C Bk om oo) (Ge0 (Cy (α:=Int) (xs:=dgs) (e:=3) (new:=onesB (e_ (ek nd es) k)) ef C C C om oo am) ?_)
  have hon1:=hon om
  have hd641:=hd64 om
  have hset:e_ (List.set dgs ((k:Int)).toNat (onesB (e_ (ek nd es) k))) (k:Int)=((degB (ek nd es) (allB ((ek nd es).length:Int)) (k:Int):Nat):Int):=by rw [Dh _ _ _ _ om om om,if_pos rfl,hon1]
  refine Ah (Av (S8 7 2 4 5 6 20 21 22 C C C C C C C C) (Bt mixed (C7 10 (Dr 0 C (Af C) (Dr 1 C (Af C) (Dr 2 C (A2 (α:=Int) (xs:=List.set dgs ((k:Int)).toNat (onesB (e_ (ek nd es) k))) Ad ef C C Bk om oo) (Dr 3 C (B3 (xs:=List.set dgs ((k:Int)).toNat (onesB (e_ (ek nd es) k))) ef C Bk om oo) (Dr 4 C (Cv C8 ty175 C C om oo) (Dr 5 C (Fp (xs:=bks) ty175 C (C2 mm) om oo) (Dr 6 C (Af C) (Ds1 7 (Se C (Am call237 C C (Bit_ok (k:Int))) ?_))))))))))))
  rintro _ _ ⟨_,_,⟨rfl,rfl⟩,rfl,rfl⟩
  refine ⟨Ay,?_⟩
  refine Dr 8 C (E0 (a:=e_ bks (e_ (List.set dgs ((k:Int)).toNat (onesB (e_ (ek nd es) k))) (k:Int))) (b:=bitB (k:Int)) C C) (Dr 9 C (Cv C8 ty175 C C om oo) (Dc kr ?_))
  refine Ae 10 C (Eff.setAU (xs:=bks) (i:=e_ (List.set dgs ((k:Int)).toNat (onesB (e_ (ek nd es) k))) (k:Int)) (n:=(e_ bks (e_ (List.set dgs ((k:Int)).toNat (onesB (e_ (ek nd es) k))) (k:Int))) ||| (bitB (k:Int))) ty175 C C C om oo am) ?_
  rintro _ _ ⟨rfl,rfl⟩
  refine De kr ?_
  exact Ak (Ai (Av (S7 2 4 5 6 20 21 22 C C C C C C C) (A0 (Gr (Rad C C) (Gm C (Bf (Ch ((k+1),(List.set dgs ((k:Int)).toNat (onesB (e_ (ek nd es) k))),(List.set bks (e_ (List.set dgs ((k:Int)).toNat (onesB (e_ (ek nd es) k))) (k:Int)).toNat ((e_ bks (e_ (List.set dgs ((k:Int)).toNat (onesB (e_ (ek nd es) k))) (k:Int))) ||| (bitB (k:Int))))) (by dsimp only;exact ⟨om,(by have hN:=hB.push (S':=λu=>0<=u/\u<((k+1:Nat):Int)) (v:=(k:Int)) (c:=((degB (ek nd es) (allB ((ek nd es).length:Int)) (k:Int):Nat):Int)) om om om (λu=>by constructor<;>intro h<;>omega) (λh=>by omega) C (hd64 om);rw [hset,hon om,bit_sh om om];exact hN)⟩))))))))
 ·refine Bp (Ac (Ac (Aw (Ai (Aj (Gm C (Gr (Bz B6 C) (Ge2 (Cw (α:=Int) (n:=(ek nd es).length) Ad ef C C C om om dc C) λad7 cp8=>?_))))))))
  refine Ga C (Ah (Aj (Gm C (Gr (Bz B6 C) (Gc0 (Am call200 C C (MaskAll_ok (((ek nd es).length:Nat):Int))) ?_)))))
  refine Ga C (Ah (Av (S6 9 3 2 4 5 6 C C C C C C) (Aj (Ga C (Ah (Au (W.label ?_)))))))
  refine Ai (Au (A6 (Ca (σ:=(List (Int×Nat))×(BitVec 64)×Nat×(List Int)×(List (BitVec 64))×(Option Addr)×Nat) (λs=>([(2,.slice s.2.2.2.2.2.1 (ordL s.1).length s.2.2.2.2.2.2),(3,.slice ad7 (replicate ((ek nd es).length) (default:Int)).length cp8),(4,.slice ad2 (ek nd es).length cp3),(5,.pointer (some ⟨b4,0,none⟩)),(6,.slice ad5 (replicate ((ek nd es).length) (default:Int)).length cp6),(9,U64 (s.2.1)),(10,e7 ((s.2.2.1:Nat):Int))]:Env)) (λs=>vc 3 (.slice s.2.2.2.2.2.1 (ordL s.1).length s.2.2.2.2.2.2) (ordL s.1)::vc 3 (.slice ad7 (replicate ((ek nd es).length) (default:Int)).length cp8) (numL (ek nd es).length s.1)::vc 3 (.slice ad5 (replicate ((ek nd es).length) (default:Int)).length cp6) (s.2.2.2.1)::e8 b4 (cells (s.2.2.2.2.1:List (BitVec 64))) 264::vc 175 (.slice ad2 (ek nd es).length cp3) (ek nd es)::e8 b1 [e7 nd,va] 48::I) (λs=>(s.1++coreR (ek nd es) s.2.1 s.2.2.1=coreR0 nd es)/\(BkOk (ek nd es).length (λu=>u∈eo s.2.1) (degB (ek nd es) s.2.1) s.2.2.2.1 s.2.2.2.2.1)/\(s.1.length+(eo s.2.1).length=(ek nd es).length)/\(s.2.2.1<=63)) (λs=>(eo s.2.1).length) ([],(allB ((ek nd es).length:Int)),0,dgs,bks,none,0) (show (([]:List (Int×Nat))++coreR (ek nd es) ((allB ((ek nd es).length:Int)):BitVec 64) (0:Nat)=coreR0 nd es)/\(BkOk (ek nd es).length (λu=>u∈eo ((allB ((ek nd es).length:Int)):BitVec 64)) (degB (ek nd es) ((allB ((ek nd es).length:Int)):BitVec 64)) (dgs:List Int) (bks:List (BitVec 64)))/\(([]:List (Int×Nat)).length+(eo ((allB ((ek nd es).length:Int)):BitVec 64)).length=(ek nd es).length)/\((0:Nat)<=63) from ⟨rfl,(hB.congr (λu=>(mem_allN hS.le).trans (by constructor<;>intro h<;>omega)) (λu _=>rfl)),(by have:(eo (allB ((ek nd es).length:Int))).length=(ek nd es).length:=cnt_allN hS.le;simp only [List.length_nil];omega),om⟩) (Aa (Da C (by first|rfl|(rw [ordL_snoc])|simp)) (Aa C (Aa C (Aa C (Aa C (Aa (Da C (by first|rfl|(rw [ordL_snoc])|simp)) (Aa Cr Bq))))))) (A8 (B9 (α:=Int) _ _) Bv) ?_)))
  rintro ⟨done,left,kk,dgs2,bks2,ao,co⟩ hp
  dsimp only at hp ⊢
  obtain ⟨hc,hB2,hln,hkk⟩:=hp
  have hdl2:=hB2.dlen
  have hbl2:=hB2.blen
  have hold:=ordL_len done
  have hnl:=numL_len (ek nd es).length done
  have hdg64:∀u∈eo left,degB (ek nd es) left u<64:=λu hu=>by have hr:=hB2.rng u hu;have:=degB_lt hS left hr.1 hr.2;omega
  refine Au (Aj (Gm C (Gr (Eh (a:=left) (b:=0#64) C C) (Ah (Bd C (λc50=>?_) (λc50=>?_))))))
  ·refine A4 (Ai (A6 (Aj (Gm C (Ah (A6 (Ca (σ:=Nat) (λs=>([(2,.slice ao (ordL done).length co),(3,.slice ad7 (replicate ((ek nd es).length) (default:Int)).length cp8),(4,.slice ad2 (ek nd es).length cp3),(5,.pointer (some ⟨b4,0,none⟩)),(6,.slice ad5 (replicate ((ek nd es).length) (default:Int)).length cp6),(9,U64 left),(10,e7 ((kk:Int))),(51,e7 ((s:Nat):Int))]:Env)) (λs=>vc 3 (.slice ao (ordL done).length co) (ordL done)::vc 3 (.slice ad7 (replicate ((ek nd es).length) (default:Int)).length cp8) (numL (ek nd es).length done)::vc 3 (.slice ad5 (replicate ((ek nd es).length) (default:Int)).length cp6) (dgs2)::e8 b4 (cells (bks2:List (BitVec 64))) 264::vc 175 (.slice ad2 (ek nd es).length cp3) (ek nd es)::e8 b1 [e7 nd,va] 48::I) (λs=>(s<=64)/\(∀c:Int,0<=c->c<((s:Nat):Int)->e_ bks2 c=0#64)) (λs=>64 - s) 0 ⟨om,(λc h1 h2=>by omega)⟩ (Aa C (Aa C (Aa C (Aa C (Aa C (Aa C (Aa C (Aa Cr Bq)))))))) A5 ?_)))))))
   rintro dd hp
   obtain ⟨hdd,hz⟩:=hp
   refine Aj (Gr (Bi C C) (Ah (Au (Bd C (λc52=>?_) (λc52=>?_)))))
   ·refine A4 (Ai (Au (A6 (Aj (Gm C (Ga C (Ah (Au (Aj (Gm C (Gr (Cv C8 ty175 C C om oo) (Gr (Fp (xs:=bks2) ty175 C (C2 mm) om oo) (Gr (Runs.eqB (a:=e_ bks2 dd) (b:=0#64) C C) (Ah (Av (S10 57 11 2 3 4 5 6 9 10 51 C C C C C C C C C C) (Bd C (λc57=>?_) (λc57=>?_)))))))))))))))))
    ·exact Bp (Ac (Aw (Ai (A0 (Gr (Rad C C) (Gm C (Bf (Ch ((dd+1)) ⟨om,(λc h1 h2=>by by_cases e:c=(dd:Int);(· rw [e];assumption);(· exact hz c h1 om))⟩))))))))
    ·refine A4 (Ai (Aj (Gm C (Gr (Cv C8 ty175 C C om oo) (Gr (Fp (xs:=bks2) ty175 C (C2 mm) om oo) (Gc0 (Am call238 C C (Least_ok (e_ bks2 dd) (Bw hT Ay))) ?_))))))
     have hTT:=hB2.takes (d:=(dd:Int)) om om c57 hz hdg64
     generalize hvE:tzB (e_ bks2 dd)=v at hTT ⊢
     obtain ⟨hTk,hdv⟩:=hTT
     have hvm:=hTk.mem
     have hvr:=hB2.rng v hvm
     refine Ga C (Ah (Av (S9 12 11 2 3 4 5 6 9 10 C C C C C C C C C) (Aj (Gm C (Gm C (Gr (D7 C C) ?_))))))
     have hmx:(if (kk:Int)<(dd:Int) then (dd:Int) else (kk:Int))=(((max kk dd):Nat):Int):=by split<;>omega
     rw [hmx]
     refine Ga C (Ah (Av (S9 10 12 11 2 3 4 5 6 9 C C C C C C C C C) (Aj (Gm C (Gm C (Gm C (Gr (A2 (α:=Int) (xs:=numL (ek nd es).length done) Ad ef C C Bk om oo) (Ge0 (Cy (α:=Int) (xs:=numL (ek nd es).length done) (e:=3) (new:=(((max kk dd):Nat):Int)) ef C C C om oo am) ?_))))))))
     refine Ah (Aj (Gm C (Gm C (Ge1 (Cj (α:=Int) (cs:=[_]) (xs:=[v]) Ad ef C C dc dc C C C C) λad9=>?_))))
     refine Ge2 (Cn (α:=Int) (e:=3) (xs:=ordL done) (ys:=([v]:List Int)) Ad ef C C C mm Bk lcn dc C (λ_ _=>am)) λad10 cp11=>?_
     refine Ga C (Ah (Av (S9 2 10 12 11 3 4 5 6 9 C C C C C C C C C) (Aj (Gm C (Gm C (G.e (Am call237 C C (Bit_ok v)) ?_))))))
     rintro _ _ ⟨_,_,⟨rfl,rfl⟩,rfl,rfl⟩
     rw [show bitB v=1#64 <<< (v).toNat from bit_sh om om]
     refine Gr (D8 (a:=left) (b:=1#64 <<< (v).toNat) C C) (Ga C (Ah (Av (S9 9 2 10 12 11 3 4 5 6 C C C C C C C C C) (Au (Bt mixed (C7 7 (Dr 0 C (Af C) (Dr 1 C (Cv C8 ty175 C C om oo) (Dr 2 C (Fp (xs:=bks2) ty175 C (C2 mm) om oo) (Dr 3 C (Af C) (Ds1 4 (Se C (Am call237 C C (Bit_ok v)) ?_))))))))))))
     rintro _ _ ⟨_,_,⟨rfl,rfl⟩,rfl,rfl⟩
     refine ⟨Ay,?_⟩
     rw [show bitB v=1#64 <<< (v).toNat from bit_sh om om]
     refine Dr 5 C (D8 (a:=e_ bks2 dd) (b:=1#64 <<< (v).toNat) C C) (Dr 6 C (Cv C8 ty175 C C om oo) (Dc kr ?_))
     refine Ae 7 C (Eff.setAU (xs:=bks2) (i:=(dd:Int)) (n:=(e_ bks2 dd) &&& ~~~(1#64 <<< (v).toNat)) ty175 C C C om oo am) ?_
     rintro _ _ ⟨rfl,rfl⟩
     refine De kr ?_
     refine Ai (Av (S8 9 2 10 12 3 4 5 6 C C C C C C C C) (Au (Aj (Gm C (Gm C (Gr (A2 (α:=(BitVec 64)) (xs:=ek nd es) B6 ty175 C C Bk om oo) (Gr (Ct (α:=(BitVec 64)) (xs:=ek nd es) (u:=U64 ((e_ (ek nd es) v))) ty175 C Bk om oo C) (Gm C (Gr (C3 (a:=(e_ (ek nd es) v)) (b:=left &&& ~~~(1#64 <<< (v).toNat)) C C) (Gc2 (Am call171 C C (MList_ok ((e_ (ek nd es) v) &&& (left &&& ~~~(1#64 <<< (v).toNat))) (Bw hT Ay))) λad12 cp13=>?_))))))))))
     refine Gr (Bz Ad C) (Gm C (Ah (Av (S10 92 91 90 9 2 10 3 4 5 6 C C C C C C C C C C) (A6 (Ca (σ:=Nat×(List Int)×(List (BitVec 64))) (λs=>([(2,.slice ad10 ((ordL done)++([v]:List Int)).length cp11),(3,.slice ad7 (replicate ((ek nd es).length) (default:Int)).length cp8),(4,.slice ad2 (ek nd es).length cp3),(5,.pointer (some ⟨b4,0,none⟩)),(6,.slice ad5 (replicate ((ek nd es).length) (default:Int)).length cp6),(9,U64 (left &&& ~~~(1#64 <<< (v).toNat))),(10,e7 ((((max kk dd):Nat):Int))),(90,.slice ad12 (eo ((e_ (ek nd es) v) &&& (left &&& ~~~(1#64 <<< (v).toNat)))).length cp13),(91,e7 ((((eo ((e_ (ek nd es) v) &&& (left &&& ~~~(1#64 <<< (v).toNat)))).length:Nat):Int))),(92,e7 ((s.1:Nat):Int))]:Env)) (λs=>vc 3 (.slice ad12 (eo ((e_ (ek nd es) v) &&& (left &&& ~~~(1#64 <<< (v).toNat)))).length cp13) (eo ((e_ (ek nd es) v) &&& (left &&& ~~~(1#64 <<< (v).toNat))))::vc 3 (.slice ad9 1 1) (([v]:List Int))::vc 3 (.slice ad10 ((ordL done)++([v]:List Int)).length cp11) ((ordL done)++([v]:List Int))::vc 3 (.slice ad7 (replicate ((ek nd es).length) (default:Int)).length cp8) (List.set (numL (ek nd es).length done) (v).toNat ((((max kk dd):Nat):Int)))::vc 3 (.slice ad5 (replicate ((ek nd es).length) (default:Int)).length cp6) (s.2.1)::e8 b4 (cells (s.2.2:List (BitVec 64))) 264::vc 175 (.slice ad2 (ek nd es).length cp3) (ek nd es)::e8 b1 [e7 nd,va] 48::I) (λs=>(s.1<=(eo (e_ (ek nd es) v &&& (left &&& ~~~(1#64 <<< (v).toNat)))).length)/\(BkOk (ek nd es).length (λu=>u∈eo (left &&& ~~~(1#64 <<< (v).toNat))) (degM (ek nd es) left (eo (e_ (ek nd es) v &&& (left &&& ~~~(1#64 <<< (v).toNat)))) s.1) s.2.1 s.2.2)) (λs=>(eo (e_ (ek nd es) v &&& (left &&& ~~~(1#64 <<< (v).toNat)))).length - s.1) (0,dgs2,List.set bks2 ((dd:Int)).toNat ((e_ bks2 dd) &&& ~~~(1#64 <<< (v).toNat))) ⟨om,((hB2.drop hvm hdv om (λu=>mem_minus om)).congr (λu=>Iff.rfl) (λu _=>degM_zero _ _ _ u))⟩ (Aa C (Aa C (Aa C (Aa C (Aa C (Aa C (Aa C (Aa C (Aa C (Aa Cr Bq)))))))))) A5 ?_)))))
     rintro ⟨j,dgs1,bks1⟩ hp
     dsimp only at hp ⊢
     obtain ⟨hj,hB1⟩:=hp
     have hdl1:=hB1.dlen
     have hbl1:=hB1.blen
     have hwsl:(eo (e_ (ek nd es) v &&& (left &&& ~~~(1#64 <<< (v).toNat)))).length<=64:=Em _
     have hwj:j<(eo (e_ (ek nd es) v &&& (left &&& ~~~(1#64 <<< (v).toNat)))).length->(e_ (eo (e_ (ek nd es) v &&& (left &&& ~~~(1#64 <<< (v).toNat)))) (j:Int))∈eo (left &&& ~~~(1#64 <<< (v).toNat))/\(e_ (eo (e_ (ek nd es) v &&& (left &&& ~~~(1#64 <<< (v).toNat)))) (j:Int))∈eo (e_ (ek nd es) v):=λh=>by have h1:=Cq (xs:=(eo (e_ (ek nd es) v &&& (left &&& ~~~(1#64 <<< (v).toNat))))) (i:=(j:Int)) om om;exact ⟨(mem_andB.1 h1).2,(mem_andB.1 h1).1⟩
     refine Aj (Gr (Bi C C) (Ah (Au (Bd C (λc93=>?_) (λc93=>?_)))))
     ·refine A4 (Ai (Au (A6 (Aj (Gr (A2 (α:=Int) (xs:=eo ((e_ (ek nd es) v) &&& (left &&& ~~~(1#64 <<< (v).toNat)))) Ad ef C C Bk om oo) (Gr (B3 (xs:=eo ((e_ (ek nd es) v) &&& (left &&& ~~~(1#64 <<< (v).toNat)))) ef C Bk om oo) (Ga C ?_)))))))
      have hwm:=hwj om
      have hwr:=hB1.rng (e_ (eo (e_ (ek nd es) v &&& (left &&& ~~~(1#64 <<< (v).toNat)))) (j:Int)) hwm.1
      have hdeg0:=hB1.deg (e_ (eo (e_ (ek nd es) v &&& (left &&& ~~~(1#64 <<< (v).toNat)))) (j:Int)) hwm.1
      have hdeg:=hdeg0
      have hnow:=degM_now (rows:=ek nd es) (left:=left) (ws:=(eo (e_ (ek nd es) v &&& (left &&& ~~~(1#64 <<< (v).toNat))))) (j:=j) om (D9 _)
      have hlw:(e_ (eo (e_ (ek nd es) v &&& (left &&& ~~~(1#64 <<< (v).toNat)))) (j:Int))∈eo left:=((mem_minus om).1 hwm.1).1
      have hw64:=hdg64 (e_ (eo (e_ (ek nd es) v &&& (left &&& ~~~(1#64 <<< (v).toNat)))) (j:Int)) hlw
      have hw1:1<=degB (ek nd es) left (e_ (eo (e_ (ek nd es) v &&& (left &&& ~~~(1#64 <<< (v).toNat)))) (j:Int)):=List.length_pos_of_mem (mem_andB.2 ⟨hS.sym v (e_ (eo (e_ (ek nd es) v &&& (left &&& ~~~(1#64 <<< (v).toNat)))) (j:Int)) om om hwm.2,hvm⟩)
      rw [hnow] at hdeg
      refine Ah (Av (S11 14 2 3 4 5 6 9 10 90 91 92 C C C C C C C C C C C) (Au (Bt mixed (C7 10 (Dr 0 C (Af C) (Dr 1 C (Af C) (Dr 2 C (A2 (α:=Int) (xs:=dgs1) Ad ef C C Bk om oo) (Dr 3 C (B3 (xs:=dgs1) ef C Bk om oo) (Dr 4 C (Cv C8 ty175 C C om oo) (Dr 5 C (Fp (xs:=bks1) ty175 C (C2 mm) om oo) (Dr 6 C (Af C) (Ds1 7 (Se C (Am call237 C C (Bit_ok (e_ (eo ((e_ (ek nd es) v) &&& (left &&& ~~~(1#64 <<< (v).toNat)))) (j:Int)))) ?_)))))))))))))
      rintro _ _ ⟨_,_,⟨rfl,rfl⟩,rfl,rfl⟩
      refine ⟨Ay,?_⟩
      refine Dr 8 C (D8 (a:=e_ bks1 (e_ dgs1 (e_ (eo ((e_ (ek nd es) v) &&& (left &&& ~~~(1#64 <<< (v).toNat)))) (j:Int)))) (b:=bitB (e_ (eo ((e_ (ek nd es) v) &&& (left &&& ~~~(1#64 <<< (v).toNat)))) (j:Int))) C C) (Dr 9 C (Cv C8 ty175 C C om oo) (Dc kr ?_))
      refine Ae 10 C (Eff.setAU (xs:=bks1) (i:=e_ dgs1 (e_ (eo ((e_ (ek nd es) v) &&& (left &&& ~~~(1#64 <<< (v).toNat)))) (j:Int))) (n:=(e_ bks1 (e_ dgs1 (e_ (eo ((e_ (ek nd es) v) &&& (left &&& ~~~(1#64 <<< (v).toNat)))) (j:Int)))) &&& ~~~(bitB (e_ (eo ((e_ (ek nd es) v) &&& (left &&& ~~~(1#64 <<< (v).toNat)))) (j:Int)))) ty175 C C C om oo am) ?_
      rintro _ _ ⟨rfl,rfl⟩
      refine De kr ?_
      refine Ai (Av (S11 14 2 3 4 5 6 9 10 90 91 92 C C C C C C C C C C C) (Aj (Gm C (Gm C (Gr (A2 (α:=Int) (xs:=dgs1) Ad ef C C Bk om oo) (Gr (B3 (xs:=dgs1) ef C Bk om oo) (Gr (Rsu C C) (Gr (A2 (α:=Int) (xs:=dgs1) Ad ef C C Bk om oo) (Ge0 (Cy (α:=Int) (xs:=dgs1) (e:=3) (new:=(e_ dgs1 (e_ (eo ((e_ (ek nd es) v) &&& (left &&& ~~~(1#64 <<< (v).toNat)))) (j:Int))) - 1) ef C C C om oo am) ?_)))))))))
      have hset2:e_ (List.set dgs1 (e_ (eo ((e_ (ek nd es) v) &&& (left &&& ~~~(1#64 <<< (v).toNat)))) (j:Int)).toNat ((e_ dgs1 (e_ (eo ((e_ (ek nd es) v) &&& (left &&& ~~~(1#64 <<< (v).toNat)))) (j:Int))) - 1)) (e_ (eo (e_ (ek nd es) v &&& (left &&& ~~~(1#64 <<< (v).toNat)))) (j:Int))=e_ dgs1 (e_ (eo (e_ (ek nd es) v &&& (left &&& ~~~(1#64 <<< (v).toNat)))) (j:Int)) - 1:=by rw [Dh _ _ _ _ om om om,if_pos rfl]
      refine Ah (Av (S11 14 2 3 4 5 6 9 10 90 91 92 C C C C C C C C C C C) (Bt mixed (C7 10 (Dr 0 C (Af C) (Dr 1 C (Af C) (Dr 2 C (A2 (α:=Int) (xs:=List.set dgs1 (e_ (eo ((e_ (ek nd es) v) &&& (left &&& ~~~(1#64 <<< (v).toNat)))) (j:Int)).toNat ((e_ dgs1 (e_ (eo ((e_ (ek nd es) v) &&& (left &&& ~~~(1#64 <<< (v).toNat)))) (j:Int))) - 1)) Ad ef C C Bk om oo) (Dr 3 C (B3 (xs:=List.set dgs1 (e_ (eo ((e_ (ek nd es) v) &&& (left &&& ~~~(1#64 <<< (v).toNat)))) (j:Int)).toNat ((e_ dgs1 (e_ (eo ((e_ (ek nd es) v) &&& (left &&& ~~~(1#64 <<< (v).toNat)))) (j:Int))) - 1)) ef C Bk om oo) (Dr 4 C (Cv C8 ty175 C C om oo) (Dr 5 C (Fp (xs:=List.set bks1 (e_ dgs1 (e_ (eo ((e_ (ek nd es) v) &&& (left &&& ~~~(1#64 <<< (v).toNat)))) (j:Int))).toNat ((e_ bks1 (e_ dgs1 (e_ (eo ((e_ (ek nd es) v) &&& (left &&& ~~~(1#64 <<< (v).toNat)))) (j:Int)))) &&& ~~~(bitB (e_ (eo ((e_ (ek nd es) v) &&& (left &&& ~~~(1#64 <<< (v).toNat)))) (j:Int))))) ty175 C (C2 mm) om oo) (Dr 6 C (Af C) (Ds1 7 (Se C (Am call237 C C (Bit_ok (e_ (eo ((e_ (ek nd es) v) &&& (left &&& ~~~(1#64 <<< (v).toNat)))) (j:Int)))) ?_))))))))))))
      rintro _ _ ⟨_,_,⟨rfl,rfl⟩,rfl,rfl⟩
      refine ⟨Ay,?_⟩
      refine Dr 8 C (E0 (a:=e_ (List.set bks1 (e_ dgs1 (e_ (eo ((e_ (ek nd es) v) &&& (left &&& ~~~(1#64 <<< (v).toNat)))) (j:Int))).toNat ((e_ bks1 (e_ dgs1 (e_ (eo ((e_ (ek nd es) v) &&& (left &&& ~~~(1#64 <<< (v).toNat)))) (j:Int)))) &&& ~~~(bitB (e_ (eo ((e_ (ek nd es) v) &&& (left &&& ~~~(1#64 <<< (v).toNat)))) (j:Int))))) (e_ (List.set dgs1 (e_ (eo ((e_ (ek nd es) v) &&& (left &&& ~~~(1#64 <<< (v).toNat)))) (j:Int)).toNat ((e_ dgs1 (e_ (eo ((e_ (ek nd es) v) &&& (left &&& ~~~(1#64 <<< (v).toNat)))) (j:Int))) - 1)) (e_ (eo ((e_ (ek nd es) v) &&& (left &&& ~~~(1#64 <<< (v).toNat)))) (j:Int)))) (b:=bitB (e_ (eo ((e_ (ek nd es) v) &&& (left &&& ~~~(1#64 <<< (v).toNat)))) (j:Int))) C C) (Dr 9 C (Cv C8 ty175 C C om oo) (Dc kr ?_))
      refine Ae 10 C (Eff.setAU (xs:=List.set bks1 (e_ dgs1 (e_ (eo ((e_ (ek nd es) v) &&& (left &&& ~~~(1#64 <<< (v).toNat)))) (j:Int))).toNat ((e_ bks1 (e_ dgs1 (e_ (eo ((e_ (ek nd es) v) &&& (left &&& ~~~(1#64 <<< (v).toNat)))) (j:Int)))) &&& ~~~(bitB (e_ (eo ((e_ (ek nd es) v) &&& (left &&& ~~~(1#64 <<< (v).toNat)))) (j:Int))))) (i:=e_ (List.set dgs1 (e_ (eo ((e_ (ek nd es) v) &&& (left &&& ~~~(1#64 <<< (v).toNat)))) (j:Int)).toNat ((e_ dgs1 (e_ (eo ((e_ (ek nd es) v) &&& (left &&& ~~~(1#64 <<< (v).toNat)))) (j:Int))) - 1)) (e_ (eo ((e_ (ek nd es) v) &&& (left &&& ~~~(1#64 <<< (v).toNat)))) (j:Int))) (n:=(e_ (List.set bks1 (e_ dgs1 (e_ (eo ((e_ (ek nd es) v) &&& (left &&& ~~~(1#64 <<< (v).toNat)))) (j:Int))).toNat ((e_ bks1 (e_ dgs1 (e_ (eo ((e_ (ek nd es) v) &&& (left &&& ~~~(1#64 <<< (v).toNat)))) (j:Int)))) &&& ~~~(bitB (e_ (eo ((e_ (ek nd es) v) &&& (left &&& ~~~(1#64 <<< (v).toNat)))) (j:Int))))) (e_ (List.set dgs1 (e_ (eo ((e_ (ek nd es) v) &&& (left &&& ~~~(1#64 <<< (v).toNat)))) (j:Int)).toNat ((e_ dgs1 (e_ (eo ((e_ (ek nd es) v) &&& (left &&& ~~~(1#64 <<< (v).toNat)))) (j:Int))) - 1)) (e_ (eo ((e_ (ek nd es) v) &&& (left &&& ~~~(1#64 <<< (v).toNat)))) (j:Int)))) ||| (bitB (e_ (eo ((e_ (ek nd es) v) &&& (left &&& ~~~(1#64 <<< (v).toNat)))) (j:Int)))) ty175 C C C om oo am) ?_
      rintro _ _ ⟨rfl,rfl⟩
      refine De kr ?_
      exact Ak (Ai (Av (S10 2 3 4 5 6 9 10 90 91 92 C C C C C C C C C C) (A0 (Gr (Rad C C) (Gm C (Bf (Ch ((j+1),(List.set dgs1 (e_ (eo ((e_ (ek nd es) v) &&& (left &&& ~~~(1#64 <<< (v).toNat)))) (j:Int)).toNat ((e_ dgs1 (e_ (eo ((e_ (ek nd es) v) &&& (left &&& ~~~(1#64 <<< (v).toNat)))) (j:Int))) - 1)),(List.set (List.set bks1 (e_ dgs1 (e_ (eo ((e_ (ek nd es) v) &&& (left &&& ~~~(1#64 <<< (v).toNat)))) (j:Int))).toNat ((e_ bks1 (e_ dgs1 (e_ (eo ((e_ (ek nd es) v) &&& (left &&& ~~~(1#64 <<< (v).toNat)))) (j:Int)))) &&& ~~~(bitB (e_ (eo ((e_ (ek nd es) v) &&& (left &&& ~~~(1#64 <<< (v).toNat)))) (j:Int))))) (e_ (List.set dgs1 (e_ (eo ((e_ (ek nd es) v) &&& (left &&& ~~~(1#64 <<< (v).toNat)))) (j:Int)).toNat ((e_ dgs1 (e_ (eo ((e_ (ek nd es) v) &&& (left &&& ~~~(1#64 <<< (v).toNat)))) (j:Int))) - 1)) (e_ (eo ((e_ (ek nd es) v) &&& (left &&& ~~~(1#64 <<< (v).toNat)))) (j:Int))).toNat ((e_ (List.set bks1 (e_ dgs1 (e_ (eo ((e_ (ek nd es) v) &&& (left &&& ~~~(1#64 <<< (v).toNat)))) (j:Int))).toNat ((e_ bks1 (e_ dgs1 (e_ (eo ((e_ (ek nd es) v) &&& (left &&& ~~~(1#64 <<< (v).toNat)))) (j:Int)))) &&& ~~~(bitB (e_ (eo ((e_ (ek nd es) v) &&& (left &&& ~~~(1#64 <<< (v).toNat)))) (j:Int))))) (e_ (List.set dgs1 (e_ (eo ((e_ (ek nd es) v) &&& (left &&& ~~~(1#64 <<< (v).toNat)))) (j:Int)).toNat ((e_ dgs1 (e_ (eo ((e_ (ek nd es) v) &&& (left &&& ~~~(1#64 <<< (v).toNat)))) (j:Int))) - 1)) (e_ (eo ((e_ (ek nd es) v) &&& (left &&& ~~~(1#64 <<< (v).toNat)))) (j:Int)))) ||| (bitB (e_ (eo ((e_ (ek nd es) v) &&& (left &&& ~~~(1#64 <<< (v).toNat)))) (j:Int)))))) (by dsimp only;exact ⟨om,(by have hN:=hB1.lower om (w:=(e_ (eo (e_ (ek nd es) v &&& (left &&& ~~~(1#64 <<< (v).toNat)))) (j:Int))) (e:=e_ dgs1 (e_ (eo (e_ (ek nd es) v &&& (left &&& ~~~(1#64 <<< (v).toNat)))) (j:Int))) hwm.1 hdeg0.symm om om (dg':=degM (ek nd es) left (eo (e_ (ek nd es) v &&& (left &&& ~~~(1#64 <<< (v).toNat)))) (j+1)) (λu _=>degM_succ om (D9 _) u);rw [hset2,bit_sh om om];exact hN)⟩))))))))
     ·exact Bp (Ac (Ac (Aw (Ai (Bp (Ao C (Ac (Ac (Ao C (Aw (Ch ((done++[(v,max kk dd)]),((left &&& ~~~(1#64 <<< (v).toNat))),(max kk dd),(dgs1),(bks1),(ad10),(cp11)) (by dsimp only;exact ⟨(core_step hc hTk om),(hB1.congr (λu=>Iff.rfl) (λu hu=>by have hr:=hB1.rng u hu;exact (degM_all hS om om hvm hr.1 hr.2 hu om).symm)),(by have:=listB_minus hvm;simp only [List.length_append,List.length_cons,List.length_nil];omega),om⟩) (hlt:=by (try dsimp only);exact (by have:=listB_minus hvm;omega)) (hL:=(Aa (Da C (by first|rfl|(rw [ordL_snoc])|simp)) (Aa C (Aa C (Aa C (Aa C (Aa (Da C (by first|rfl|(rw [ordL_snoc])|simp)) (Aa C Bq)))))))) (hI:=by (try dsimp only);exact (by rw [ordL_snoc,numL_snoc];exact Bv)))))))))))))
   ·exact (hB2.some (Classical.not_not.1 (λh=>h asm)) hdg64 (λc h1 h2=>hz c h1 om)).elim
  ·refine Bp (Ac (Ac (Aw (Ai (Aj (Gm C (Gm C (Ga C (Ga C (Ah (Az (V.jump_ret ?_))))))))))))
   have hl0:left=0#64:=Classical.not_not.1 c50
   have hdn:done=coreR0 nd es:=by rw [←hc,hl0,coreR_zero,List.append_nil]
   subst hdn
   have hcl:=coreL_len nd es
   exact C4 C C C (vc 3 (.slice ao (coreO nd es).length co) (coreO nd es)::vc 3 (.slice ad7 (coreL nd es).length cp8) (coreL nd es)::I) (by rw [hcl];simp only [List.length_replicate];exact Bv) ⟨ao,co,ad7,cp8,by rw [hcl];simp only [List.length_replicate];rfl,rfl⟩
variable {κ:Ctx}{I:List Item}
theorem CNumbers_ok{nd:Int}{va:Value}{es:List Pt}(hl:Sl κ I va es)(hT:TabRd κ I 0 tzCells):eu prog κ 104 [.agg #[e7 nd,va]] I (λr J=>∃a c,r = .tuple #[.slice a (coreN nd es).length c,e7 (checkG nd es)]/\J=vc 3 (.slice a (coreN nd es).length c) (coreN nd es)::I):=by
 refine Ce1 Tryz.func104 C C ?_
 refine Aj (Ge1 (Bg (cs:=[_,_]) C C C) λb1=>Ga C (Ga C (Ah (Au (Aj (Gl2 ty48 ?_))))))
 refine Gc0 (Am call83 C C (CheckGen_ok (Bj hl))) ?_
 refine Ga C (Ah (Aj (Gm C (Gr (Bx C C) (Ah (Bd C (λc10=>?_) (λc10=>?_)))))))
 ·refine Aj (Gm C (Ga C (Ga C (Ah (Az (Ar ?_))))))
  have hX:(coreN nd es)=[]:=if_pos c10
  exact C4 C C C (vc 3 (.slice none (coreN nd es).length 0) (coreN nd es)::I) (by rw [hX];exact A8 (show Fit κ _ I from Ay) (B9 (α:=Int) _ _)) ⟨none,0,by rw [hX];rfl,rfl⟩
 ·refine A4 (Ai (Aj (Gl2 ty48 ?_)))
  refine G.e (Am call175 C C (CPeel_ok (nd:=nd) (Bj hl) (checkG_ok.1 (Classical.not_not.1 c10)) (Bw hT Ay))) ?_
  rintro _ _ ⟨_,_,⟨ad2,cp3,ad4,cp5,rfl,rfl⟩,rfl,rfl⟩
  refine Gm C (Gr (Ax C C) (Gr (Ax C C) (Ga C (Ga C (Ah (Av (S1 6 C) (Aj (Gm C (Ga C (Ga C (Ah (Az ?_))))))))))))
  have hX:(coreN nd es)=_:=if_neg c10
  have hz:checkG nd es=0:=Classical.not_not.1 c10
  exact C4 C C C (vc 3 (.slice ad4 (coreN nd es).length cp5) (coreN nd es)::I) (by rw [hX];exact A5) ⟨ad4,cp5,by rw [hX,hz]<;>rfl,rfl⟩
theorem coreN_len(nd:Int)(es:List Pt):(coreN nd es).length<=64:=by
 unfold coreN
 split
 ·simp
 ·rw [coreL_len,rowsB_len];omega
theorem CCore_ok{nd lv:Int}{va:Value}{es:List Pt}(hl:Sl κ I va es)(hT:TabRd κ I 0 tzCells):eu prog κ 109 [.agg #[e7 nd,va],e7 lv] I (λr J=>∃a c,r = .tuple #[.slice a (coreK nd es lv).length c,e7 (checkG nd es)]/\J=vc 3 (.slice a (coreK nd es lv).length c) (coreK nd es lv)::I):=by
 have hnl0:=coreN_len nd es
 refine Ce2 Tryz.func109 C C ?_
 refine Aj (Ge1 (Bg (cs:=[_,_]) C C C) λb1=>Ga C (Ga C (Ah (Aj (Gl2 ty48 ?_)))))
 refine Gc2 (Am call104 C C (CNumbers_ok (nd:=nd) (Bj hl) (Bw hT Ay))) λad2 cp3=>?_
 refine Gm C (Gr (Ax C C) (Gr (Ax C C) (Ga C (Ga C (Ah (Aj (Ga C (Ah (Au (Aj (Gm C (Gr (Bz Ad C) (Gm C (Ah (Av (S6 18 17 16 8 7 1 C C C C C C) (A6 (Ca (σ:=Nat×(Option Addr)×Nat×(List Int)) (λs=>([(1,e7 lv),(7,e7 (checkG nd es)),(8,.slice s.2.1 s.2.2.2.length s.2.2.1),(16,.slice ad2 (coreN nd es).length cp3),(17,e7 ((((coreN nd es).length:Nat):Int))),(18,e7 ((s.1:Nat):Int))]:Env)) (λs=>vc 3 (.slice s.2.1 s.2.2.2.length s.2.2.1) (s.2.2.2)::vc 3 (.slice ad2 (coreN nd es).length cp3) (coreN nd es)::e8 b1 [e7 nd,va] 48::I) (λs=>(s.1<=(coreN nd es).length)/\(s.2.2.2=sideL s.1 (λv=>decide (lv<=e_ (coreN nd es) v)))) (λs=>(coreN nd es).length - s.1) (0,none,0,[]) ⟨om,rfl⟩ (Aa C (Aa C (Aa (Da C (by first|rfl|simp)) (Aa C (Aa C (Aa Cr Bq)))))) (B9 _ _) ?_)))))))))))))))))
 rintro ⟨k,a,c,out⟩ hp
 dsimp only at hp ⊢
 obtain ⟨hk,ho⟩:=hp
 have hol:out.length<=k:=by rw [ho];exact sideL_len _ _
 have hnl:=coreN_len nd es
 refine Aj (Gr (Bi C C) (Ah (Au (Bd C (λc19=>?_) (λc19=>?_)))))
 ·refine A4 (Ai (Au (A6 (Aj (Gm C (Gr (A2 (α:=Int) (xs:=coreN nd es) Ad ef C C Bk om om) (Gr (B3 (xs:=coreN nd es) ef C Bk om om) (Ga C (Ga C (Ah (Aj (Gm C (Gm C (Gr (Cu C C) (Ah (Av (S8 25 9 1 7 8 16 17 18 C C C C C C C C) (Bd C (λc25=>?_) (λc25=>?_))))))))))))))))))
  ·refine A0 (Gm C (Gm C (Ge1 (Cj (α:=Int) (cs:=[_]) (xs:=[(k:Int)]) Ad ef C C dc dc C C C C) λad4=>?_)))
   refine Ge2 (Cn (α:=Int) (e:=3) (xs:=out) (ys:=([(k:Int)]:List Int)) Ad ef C C C mm Bk lcn dc C (λ_ _=>am)) λad5 cp6=>?_
   exact Ga C (Bf (Ak (Ai (A0 (Gr (Rad C C) (Gm C (Bf (Ch ((k+1),(ad5),(cp6),(out++([(k:Int)]:List Int))) (by dsimp only;exact ⟨om,(by first|(rw [sideL_yes (decide_eq_true asm),←ho])|(rw [sideL_no (decide_eq_false asm),←ho]))⟩)))))))))
  ·exact A4 (Ak (Ai (A0 (Gr (Rad C C) (Gm C (Bf (Ch ((k+1),(a),(c),(out)) (by dsimp only;exact ⟨om,(by first|(rw [sideL_yes (decide_eq_true asm),←ho])|(rw [sideL_no (decide_eq_false asm),←ho]))⟩))))))))
 ·refine Bp (Ac (Ac (Aw (Ai (Aj (Gm C (Gm C (Ga C (Ga C (Ah (Az ?_)))))))))))
  have hE:out=(coreK nd es lv):=by rw [ho,show k=(coreN nd es).length by omega];rfl
  exact C4 C C C (vc 3 (.slice a (coreK nd es lv).length c) (coreK nd es lv)::I) (by rw [←hE];exact A5) ⟨a,c,by rw [←hE],rfl⟩
structure BothP (n:Net) (f:List Int) (side:List Bool):Prop where
 flow:IsFlow n f
 len:(side.length:Int)=n.nodes
 great:∃T,Great n f T/\∀z:Int,0<=z->z<n.nodes->e_ side z=T z
set_option maxHeartbeats 1000000 in
theorem Both_ok{κ:Ctx}{I:List Item}{n:Net}{v:Value}(hl:Sl κ I v n.arcs)(hok:n.Ok):eu prog κ 282 [.agg #[e7 (n.nodes),e7 (n.source),e7 (n.sink),v]] I (λr J=>∃a c f a' c' side val,r = .tuple #[.slice a f.length c,e7 val,.slice a' side.length c']/\BothP n f side/\J=vc 4 (.slice a' side.length c') side::vc 3 (.slice a f.length c) f::I):=by
 have hlim:=hok.lim
 have hsnk:=hok.snk
 have hsrc:=hok.src
 refine Ce1 Tryz.func282 C C ?_
 refine Aj (Ge1 (Bg (cs:=[_,_,_,_]) C C C) λb1=>Ga C (Ga C (Ga C (Ah (Aj (Gl4 ty303 ?_))))))
 refine G.e (Am call317 C C (Solved_ok (n:=n) (Bj hl) hok)) ?_
 rintro _ _ ⟨_,_,⟨b,hw,ow,lw,nw,f,hs,rs,L,nx,val,rfl,⟨hfull,hh,hr⟩,rfl⟩,rfl,rfl⟩
 refine G.fit (J:=e8 b [hw,ow,lw,nw,e7 (n.sink)] 339::vc 336 hw (hs)::vc 3 lw (L)::vc 3 nw (nx)::vc 22 ow (rs)::e8 b1 [e7 (n.nodes),e7 (n.source),e7 (n.sink),v] 303::(rowsI rs++I)) Bv ?_
 refine Gm C (Gr (Ax C C) (Gr (Ax C C) (Ga C (Ga C (Ah (Au (Aj (Gf fld303_3 C ?_))))))))
 have hff:=hfull.flow.len
 have hhl:=hh.len
 refine Gl ty301 ?_
 refine Gr (Cb (α:=Arc) (xs:=n.arcs) Dx C (Bj hl)) (Gm C (Ah (Av (S7 17 16 15 3 5 2 1 C C C C C C C) (A6 (Ca (σ:=Nat×(Option Addr)×Nat×(List Int)) (λs=>([(1,.pointer (some ⟨b1,0,none⟩)),(2,.slice s.2.1 s.2.2.2.length s.2.2.1),(3,e7 val),(5,.pointer (some ⟨b,0,none⟩)),(15,v),(16,e7 ((n.arcs.length:Nat):Int)),(17,e7 ((s.1:Nat):Int))]:Env)) (λs=>vc 3 (.slice s.2.1 s.2.2.2.length s.2.2.1) (s.2.2.2)::e8 b [hw,ow,lw,nw,e7 (n.sink)] 339::vc 336 hw (hs)::vc 3 lw (L)::vc 3 nw (nx)::vc 22 ow (rs)::e8 b1 [e7 (n.nodes),e7 (n.source),e7 (n.sink),v] 303::(rowsI rs++I)) (λs=>(s.1<=n.arcs.length)/\(s.2.2.2=f.take s.1)) (λs=>n.arcs.length - s.1) (0,none,0,[]) ⟨om,rfl⟩ (Aa C (Aa (Da C (by first|rfl|simp)) (Aa C (Aa C (Aa C (Aa C (Aa Cr Bq))))))) (B9 _ _) ?_)))))
 rintro ⟨k,a,c,fl⟩ hp
 dsimp only at hp ⊢
 obtain ⟨hk,hfl⟩:=hp
 have hfll:fl.length=k:=by rw [hfl,List.length_take];omega
 refine Aj (Gr (Bi C C) (Ah (Au (Bd C (λc18=>?_) (λc18=>?_)))))
 ·refine A4 (Ai (Au (A6 (Aj (Gm C (Gr (A2 (α:=Arc) (xs:=n.arcs) Dx ty305 C C (Bj hl) om oo) (Gr (B7 (α:=Arc) (xs:=n.arcs) ty305 C (Bj hl) om oo) (Ge1 (A9 ty305 C) λb2=>Ga C (Ge0 (Es3_3 ty305) ?_)))))))))
  have hgt:=hh.get (2*(k:Int)) ⟨by omega,by omega⟩
  have hcap:=hfull.flow.cap k om
  have hac:=arc_at hok (k:=k) om
  have hlv:leftH n f (2*(k:Int))=(e_ n.arcs k).cap - e_ f k:=by unfold leftH;rw [if_pos om,show (2*(k:Int)) / 2=(k:Int) from by omega]
  have hleft:(e_ n.arcs k).cap - (e_ hs (2*(k:Int))).left=e_ f k:=by omega
  refine Ah (Bt mixed (C9 (e8 b2 [e7 ((e_ n.arcs k).frm),e7 ((e_ n.arcs k).dst),e7 ((e_ n.arcs k).cap)] 305::e8 b [hw,ow,lw,nw,e7 (n.sink)] 339::vc 336 hw (hs)::vc 3 lw (L)::vc 3 nw (nx)::vc 22 ow (rs)::e8 b1 [e7 (n.nodes),e7 (n.source),e7 (n.sink),v] 303::(rowsI rs++I)) 16 (Dr 0 C (Af C) (Dr 1 C (Ab fld305_2 C) (Dr 2 C (As ef) ?_)))))
  refine Dr 3 C (Af C) (Dr 4 C (Br C) (Dr 5 C (Ab fld339_0 C) (Dr 6 C (As ty337) ?_)))
  refine Dr 7 C (Af C) (Dr 8 C (Fj C C (by unfold InR;omega)) (Dr 9 C (A2 (α:=Half) (xs:=hs) Co ty336 C C Bk om oo) (Dr 10 C (Es (α:=Half) (xs:=hs) fld336_1 C Bk oo) (Dr 11 C (E3 (α:=Half) (xs:=hs) (u:=e7 ((e_ hs (2*(k:Int))).left)) ef C Bk om oo C) (Dr 12 C (Rsu C C) (Ds1 13 (Se1 C (Cj (α:=Int) (cs:=[_]) (xs:=[((e_ n.arcs k).cap) - ((e_ hs (2*(k:Int))).left)]) Ad ef C C dc dc C C C C) λad3=>?_)))))))
  refine Ds1 14 (Se2 C (Cn (α:=Int) (e:=3) (xs:=fl) (ys:=([((e_ n.arcs k).cap) - ((e_ hs (2*(k:Int))).left)]:List Int)) Ad ef C C C mm Bk lcn dc C (λ_ _=>am)) λad4 cp5=>?_)
  exact Dr 15 C (Bb C) (Dz (Ak (Ai (Av (S7 2 1 3 5 15 16 17 C C C C C C C) (A0 (Gr (Rad C C) (Gm C (Bf (Ch ((k+1),(ad4),(cp5),(fl++([((e_ n.arcs k).cap) - ((e_ hs (2*(k:Int))).left)]:List Int))) (by dsimp only;exact ⟨om,(by rw [hfl,Di f k om];congr 1;rw [hleft])⟩))))))))))
 ·refine Bp (Ac (Ac (Aw (Ai (Aj (Gm C ?_))))))
  have hkm:k=n.arcs.length:=by omega
  have hfe:fl=f:=by rw [hfl,hkm,←hff,List.take_length]
  refine Gf fld303_2 C (Gl ef ?_)
  refine G.e (Am call318 C C (C1 (J:=e8 b [hw,ow,lw,nw,e7 (n.sink)] 339::vc 3 (.slice a fl.length c) (fl)::vc 336 hw (hs)::vc 3 lw (L)::vc 3 nw (nx)::vc 22 ow (rs)::e8 b1 [e7 (n.nodes),e7 (n.source),e7 (n.sink),v] 303::(rowsI rs++I)) Bv (Reached_ok (n:=n) (rs:=rs) (hs:=hs) hok hh Bk hr Bk (λi h0 h=>Ce (rowsI_sl i h0 h) Ay) om))) ?_
  rintro _ _ ⟨_,_,⟨ad6,cp7,seen8,rfl,hseen8,rfl⟩,rfl,rfl⟩
  have hlenseen8:=hseen8.len
  refine Ga C (Ah (Au (Aj (Gm C (Gr (Bz Cx C) (Gm C (Ah (Av (S5 44 43 4 2 3 C C C C C) (A6 (Ca (σ:=Nat×(List Bool)) (λs=>([(2,.slice a fl.length c),(3,e7 val),(4,.slice ad6 seen8.length cp7),(43,e7 ((seen8.length:Nat):Int)),(44,e7 ((s.1:Nat):Int))]:Env)) (λs=>vc 4 (.slice ad6 seen8.length cp7) (s.2)::e8 b [hw,ow,lw,nw,e7 (n.sink)] 339::vc 3 (.slice a fl.length c) (fl)::vc 336 hw (hs)::vc 3 lw (L)::vc 3 nw (nx)::vc 22 ow (rs)::e8 b1 [e7 (n.nodes),e7 (n.source),e7 (n.sink),v] 303::(rowsI rs++I)) (λs=>(s.1<=seen8.length)/\(s.2.length=seen8.length)/\(∀i:Nat,i<seen8.length->e_ s.2 i=if i<s.1 then !e_ seen8 i else e_ seen8 i)) (λs=>seen8.length - s.1) (0,seen8) ⟨om,rfl,(λi h=>by rw [if_neg om])⟩ (Aa C (Aa C (Aa C (Aa C (Aa Cr Bq))))) A5 ?_))))))))))
  rintro ⟨k,sd⟩ hp
  dsimp only at hp ⊢
  obtain ⟨hk,hsl,hsd⟩:=hp
  refine Aj (Gr (Bi C C) (Ah (Au (Bd C (λc45=>?_) (λc45=>?_)))))
  ·refine A4 (Ai (Au (A6 (Aj (Gm C (Ga C (Ah (A0 (Gm C (Gm C (Gm C (Gm C (Gr (A2 (α:=Bool) (xs:=sd) Cx ty4 C C Bk om oo) (Gr (Runs.getB (xs:=sd) ty4 C Bk om oo) (Gr (B8 C) (Gr (A2 (α:=Bool) (xs:=sd) Cx ty4 C C Bk om oo) (Ge0 (Cy (α:=Bool) (xs:=sd) (e:=4) (new:= !e_ sd k) ty4 C C C om oo am) ?_)))))))))))))))))
   exact Bf (Ak (Ai (Av (S5 2 3 4 43 44 C C C C C) (A0 (Gr (Rad C C) (Gm C (Bf (Ch ((k+1),(List.set sd ((k:Int)).toNat (!e_ sd k))) (by dsimp only;exact ⟨om,(by rw [List.length_set];exact hsl),(λi h=>by rw [Dh _ _ _ _ om om om];by_cases e:i=k;(· subst e;rw [if_pos rfl,if_pos om,hsd i h,if_neg om]);(· rw [if_neg om,hsd i h];by_cases h2:i<k;(· rw [if_pos h2,if_pos om]);(· rw [if_neg h2,if_neg om])))⟩)))))))))
  ·refine Bp (Ac (Ac (Aw (Ai (Aj (Gm C (Gm C (Gm C (Ga C (Ga C (Ga C (Ah (Az ?_)))))))))))))
   subst hfe
   exact V.ret3 C C C C (vc 4 (.slice ad6 sd.length cp7) sd::vc 3 (.slice a fl.length c) fl::I) (by rw [hsl];exact Bv) ⟨a,c,fl,ad6,cp7,sd,val,by rw [hsl],⟨hfull.flow,by omega,_,hseen8.great hok hfull,λz h0 h1=>by obtain ⟨i,rfl⟩:∃i:Nat,z=(i:Int):=⟨z.toNat,om⟩;rw [hsd i om,if_pos om]⟩,rfl⟩
def setP2(p:Pt)(j:Int)(n:Int):Pt:=if j=0 then {p with u:=n} else {p with v:=n}
section
variable {P:Program}{κ:Ctx}{N:Frm}{Q:Exit->Act->World->Prop}{L:Env}{I J:List Item}
variable {d:Option Tmp}{ty:TypeId}{ps:String}{af:Array Edge}{gd:Option (Nat×Bool)}
theorem Runs.index2{x y:Operand}{T:TypeId}{u v j:Int}(h0:∀w:World,(Instr.index T (.agg #[e7 u,e7 v]) (e7 0)).run P w = .ok (e7 u) w)(h1:∀w:World,(Instr.index T (.agg #[e7 u,e7 v]) (e7 1)).run P w = .ok (e7 v) w)
  (hx:er L x=some (.agg #[e7 u,e7 v])) (hy:er L y=some (e7 j)) (hj:j=0\/j=1):Runs P κ N ⟨d,.index T x y,ty,ps,af,gd⟩ L J (e7 (if j=0 then u else v)):=λa w ha hs=>by
 rcases hj with rfl|rfl
 ·simp [execOp,ha.eval hx,ha.eval hy,h0]
 ·simp [execOp,ha.eval hx,ha.eval hy,h1]
theorem Runs.idxsV(α:Type)[Enc α]{x y:Operand}{T E by' n c:Nat}{ag:Bool}{z:List Value}{ad:Option Addr}{i:Int}(ht:P.underlying T=some (.slice E))(hE:tyF P E=some (Enc.sz α,ag,by',z))(hx:er L x=some (.slice ad n c))
  (hy:er L y=some (e7 i)) (ha:ad≠none) (h0:0<=i) (hn:i<n):Runs P κ N ⟨d,.indexAddr T x y,ty,ps,af,gd⟩ L J (elemPtr (.slice ad n c) (i.toNat*Enc.sz α)):=by
 cases ad with
 |none=>exact absurd rfl ha
 |some ad=>exact λa w ha hs=>by simp [execOp,ha.eval hx,ha.eval hy,Instr.indexAt,asIntOf,run_underlying ht,h0,hn,run_sizeOf hE,elemPtr]
theorem Runs.idxElF{x y:Operand}{T E n sz m by' n' c:Nat}{ag:Bool}{z:List Value}{ad:Option Addr}{i:Int}(ht:P.underlying T=some (.array n E))(hE:tyF P E=some (sz,ag,by',z))(hx:er L x=some (elemPtr (.slice ad n' c) m))
  (hy:er L y=some (e7 i)) (ha:ad≠none) (h0:0<=i) (hn:i<n):Runs P κ N ⟨d,.indexAddr T x y,ty,ps,af,gd⟩ L J (elemPtr (.slice ad n' c) (m+i.toNat*sz)):=by
 cases ad with
 |none=>exact absurd rfl ha
 |some ad=>
  have e:(ad.add m).add (i.toNat*sz)=ad.add (m+i.toNat*sz):=by
   generalize i.toNat*sz=q
   unfold Addr.add
   by_cases h1:m=0<;>by_cases h2:q=0<;>simp [h1,h2,Nat.add_assoc]
  exact λa w ha hs=>by simp [execOp,ha.eval hx,ha.eval hy,elemPtr,Instr.indexAt,asIntOf,run_underlying ht,h0,hn,run_sizeOf hE,Instr.sureAddr,e]
theorem Eff.setP2{xs:List Pt}{x y:Operand}{T by' e:Nat}{z:List Value}{v:Value}{i j n:Int}{I':List Item}(hT:tyF P T=some (1,false,by',z))(hx:er L x=some (elemPtr v (i.toNat*Enc.sz Pt+j.toNat*1)))(hy:er L y=some (e7 n))(hj:j=0\/j=1)
  (h0:0<=i) (hn:i<xs.length) (hat:At I (vc e v xs) (vc e v (xs.set i.toNat (setP2 (e_ xs i) j n))) I'):Eff P κ N Q ⟨none,.store T x y,ty,ps,af,gd⟩ L I λL' I''=>L'=L/\I''=I':=by
 rcases hj with rfl|rfl
 ·exact Eff.setf (α:=Pt) (xs:=xs) (e:=e) (new:={e_ xs i with u:=n}) (j:=0) hT hx hy C C dc C h0 hn hat
 ·exact Eff.setf (α:=Pt) (xs:=xs) (e:=e) (new:={e_ xs i with v:=n}) (j:=1) hT hx hy C C dc C h0 hn hat
theorem Eff.setC2{x y:Operand}{T sz by' b E:Nat}{ag:Bool}{z:List Value}{p q j n:Int}{I':List Item}(hT:tyF P T=some (sz,ag,by',z))(hs1:sz=1)(hx:er L x=some (.pointer (some ⟨b,0+j.toNat*1,none⟩)))(hy:er L y=some (e7 n))(hj:j=0\/j=1)
  (hat:At I (e8 b [e7 p,e7 q] E) (e8 b [e7 (if j=0 then n else p),e7 (if j=0 then q else n)] E) I'):Eff P κ N Q ⟨none,.store T x y,ty,ps,af,gd⟩ L I λL' I''=>L'=L/\I''=I':=by
 rcases hj with rfl|rfl
 ·exact Eff.store (vs:=[e7 n]) hT hx hy C (by rw [hs1];rfl) (λu hu=>by rw [List.mem_singleton] at hu;subst hu;rfl) (by simp) C hat
 ·exact Eff.store (vs:=[e7 n]) hT hx hy C (by rw [hs1];rfl) (λu hu=>by rw [List.mem_singleton] at hu;subst hu;rfl) (by simp) C hat
end
theorem ix2a(u v:Int)(w:World):(Instr.index 64 (.agg #[e7 u,e7 v]) (e7 0)).run prog w = .ok (e7 u) w:=by kernel_rfl
theorem ix2b(u v:Int)(w:World):(Instr.index 64 (.agg #[e7 u,e7 v]) (e7 1)).run prog w = .ok (e7 v) w:=by kernel_rfl
structure PlainP (nd:Int) (es:List Pt) (ws bs cs:List Int):Prop where
 wl:ws.length=es.length
 w1:∀i:Nat,i<es.length->e_ ws i=1
 bl:bs.length=nd.toNat
 b0:∀i:Int,0<=i->i<nd->e_ bs i=0
 cl:cs.length=nd.toNat
 c1:∀i:Int,0<=i->i<nd->e_ cs i=1
theorem bit_mem{W:BitVec 64}{u:Int}(h0:0<=u)(h1:u<64):W &&& bitB u≠0#64↔W.getLsbD u.toNat=true:=by
 have hb:bitB u=0#64 ||| 1#64 <<< u.toNat:=by rw [BitVec.zero_or];exact bit_sh h0 h1
 rw [hb]
 constructor
 ·intro h
  obtain ⟨x,hx⟩:=nz_listB.1 h
  rw [mem_andB,mem_orbit h0 h1,Du] at hx
  rcases hx.2 with h2|h2
  ·cases h2
  ·rw [←h2];exact (mem_listB.1 hx.1).2
 ·intro h
  exact nz_listB.2 ⟨u,mem_andB.2 ⟨mem_listB.2 ⟨h0,h⟩,(mem_orbit h0 h1).2 (.inr rfl)⟩⟩
theorem bit_all{u nd:Int}(h0:0<=u)(h1:u<nd)(h2:nd<=64):(bitB u &&& allB nd) &&& ~~~0#64≠0#64:=by
 rw [BitVec.not_zero,BitVec.and_allOnes,BitVec.and_comm]
 exact (bit_mem h0 om).2 (by rw [getLsb_allB om h2 om,decide_eq_true_eq];omega)
theorem insE_yes{W:BitVec 64}{es:List Pt}{k:Nat}(hk:k<es.length)(hr:(0<=(e_ es k).u/\(e_ es k).u<64)/\0<=(e_ es k).v/\(e_ es k).v<64)(h1:W &&& bitB (e_ es k).u≠0#64)(h2:W &&& bitB (e_ es k).v≠0#64):insE W (es.take (k+1))=insE W (es.take k)+1:=by
 rw [insE_take hk,(bit_mem hr.1.1 hr.1.2).1 h1,(bit_mem hr.2.1 hr.2.2).1 h2];rfl
theorem insE_no{W:BitVec 64}{es:List Pt}{k:Nat}(hk:k<es.length)(hr:(0<=(e_ es k).u/\(e_ es k).u<64)/\0<=(e_ es k).v/\(e_ es k).v<64)(h:¬W &&& bitB (e_ es k).u≠0#64\/¬W &&& bitB (e_ es k).v≠0#64):insE W (es.take (k+1))=insE W (es.take k):=by
 rw [insE_take hk]
 rcases h with h|h
 ·rw [bit_mem hr.1.1 hr.1.2,Bool.not_eq_true] at h
  rw [h];simp
 ·rw [bit_mem hr.2.1 hr.2.2,Bool.not_eq_true] at h
  rw [h];simp
theorem flat_succ{α:Type}(f:Nat->List α)(k:Nat):(List.range (k+1)).flatMap f=(List.range k).flatMap f++f k:=by
 rw [List.range_succ,List.flatMap_append];simp
theorem Gain_ok{κ:Ctx}{I:List Item}{nd:Int}{ve vw vb vk:Value}{al:BitVec 64}{es:List Pt}{ws bs cs:List Int}(hl:Sl κ I ve es)(hw:Sl κ I vw ws)(hb:Sl κ I vb bs)(hkc:Sl κ I vk cs)(hG:GrOk nd es)(hm:es.length<=2016)(hP:PlainP nd es ws bs cs)(wb:BitVec 64)(hW:subN nd wb)(hT:TabRd κ I 0 tzCells):eu prog κ 232 [.agg #[ve,vw,vb,vk,U64 al,U64 (0#64)],U64 wb] I (λr J=>r = .tuple #[e7 (insE wb es),e7 (cntB wb)]/\I=J):=by
 have hrng:=hG.rng
 have hwl:=hP.wl
 have hbl:=hP.bl
 have hcl:=hP.cl
 refine Ce2 Tryz.func232 C C ?_
 refine Aj (Ge1 (Bg (cs:=[_,_,_,_,_,_]) C C C) λb1=>Ga C (Ga C (Ah (Au (Aj (Gf fld211_0 C (Gl ty46 ?_)))))))
 refine Gr (Cb (α:=Pt) (xs:=es) Bu C (Bj hl)) (Gm C (Ah (A6 (Ca (σ:=Nat) (λs=>([(1,U64 wb),(2,.pointer (some ⟨b1,0,none⟩)),(4,e7 (insE wb (es.take s))),(5,e7 0),(11,ve),(12,e7 ((es.length:Nat):Int)),(13,e7 ((s:Nat):Int))]:Env)) (λs=>e8 b1 [ve,vw,vb,vk,U64 al,U64 (0#64)] 211::I) (λs=>(s<=es.length)) (λs=>es.length - s) 0 (show ((0:Nat)<=es.length) from om) (Aa C (Aa C (Aa (Dl C (by first|omega|(dsimp only<;>omega)|exact insE_yes hk2 her2 g24 c31|exact (insE_yes hk2 her2 g24 c31).symm|exact insE_no hk2 her2 (.inl g24)|exact insE_no hk2 her2 (.inr c31)|exact (insE_no hk2 her2 (.inl g24)).symm|exact (insE_no hk2 her2 (.inr c31)).symm|rfl)) (Aa C (Aa C (Aa C (Aa (Dl C (by first|omega|(dsimp only<;>omega)|exact insE_yes hk2 her2 g24 c31|exact (insE_yes hk2 her2 g24 c31).symm|exact insE_no hk2 her2 (.inl g24)|exact insE_no hk2 her2 (.inr c31)|exact (insE_no hk2 her2 (.inl g24)).symm|exact (insE_no hk2 her2 (.inr c31)).symm|rfl)) Bq))))))) A5 ?_))))
 rintro k hp
 have hk:=hp
 have hib:=insE_bd wb (es.take k)
 have htl:(es.take k).length<=k:=by rw [List.length_take];omega
 refine Aj (Gr (Bi C C) (Ah (Au (Bd C (λc14=>?_) (λc14=>?_)))))
 ·refine A4 (Ai (Au (A6 (Aj (Gm C (Gr (A2 (α:=Pt) (xs:=es) Bu ty135 C C (Bj hl) om om) ?_))))))
  have hk2:k<es.length:=by omega
  have hed:=hG.edge (e_ es k) (Cq om om)
  have her2:(0<=(e_ es k).u/\(e_ es k).u<64)/\0<=(e_ es k).v/\(e_ es k).v<64:=by omega
  refine Gr (B7 (α:=Pt) (xs:=es) ty135 C (Bj hl) om om) (Ge1 (A9 ty135 C) λb2=>Ga C (Ge0 (Cs ty135) ?_))
  refine Ah (Aj (Gm C (Gf fld135_0 C (Gl ef ?_))))
  refine G.e (Am call237 C C (Bit_ok ((e_ es k).u))) ?_
  rintro _ _ ⟨_,_,⟨rfl,rfl⟩,rfl,rfl⟩
  refine Gr (C3 (a:=wb) (b:=bitB ((e_ es k).u)) C C) (Gr (Eh (a:=wb &&& (bitB ((e_ es k).u))) (b:=0#64) C C) (Gm C (Bs (d:=24) C (λg24=>?_) (λg24=>?_))))
  ·refine e9 (Af C) (e9 (Ab fld135_1 C) (e9 (As ef) ?_))
   refine Et (Cz C C C) (Am call237 C C (Bit_ok ((e_ es k).v))) ?_
   rintro _ _ ⟨_,_,⟨rfl,rfl⟩,rfl,rfl⟩
   refine e9 (C3 (a:=wb) (b:=bitB ((e_ es k).v)) C C) (e9 (Eh (a:=wb &&& (bitB ((e_ es k).v))) (b:=0#64) C C) (Gr (Ap C C) (Ah (Av (S9 31 6 1 2 4 5 11 12 13 C C C C C C C C C) (Bd C (λc31=>?_) (λc31=>?_))))))
   ·refine A0 (Gm C (Gf fld211_1 C (Gl ty22 ?_)))
    refine Gm C (Gr (A2 (α:=Int) (xs:=ws) Ad ef C C (Bj hw) om om) (Gr (B3 (xs:=ws) ef C (Bj hw) om om) ?_))
    rw [hP.w1 k hk2]
    exact Gr (Rad C C) (Ga C (Bf (Ak (Ai (Av (S7 4 1 2 5 11 12 13 C C C C C C C) (A0 (Gr (Rad C C) (Gm C (Bf (Ch ((k+1)) om (hL:=(Aa C (Aa C (Aa (Dl C (by first|omega|(dsimp only<;>omega)|exact insE_yes hk2 her2 g24 c31|exact (insE_yes hk2 her2 g24 c31).symm|exact insE_no hk2 her2 (.inl g24)|exact insE_no hk2 her2 (.inr c31)|exact (insE_no hk2 her2 (.inl g24)).symm|exact (insE_no hk2 her2 (.inr c31)).symm|rfl)) (Aa C (Aa C (Aa C (Aa (Dl C (by first|omega|(dsimp only<;>omega)|exact insE_yes hk2 her2 g24 c31|exact (insE_yes hk2 her2 g24 c31).symm|exact insE_no hk2 her2 (.inl g24)|exact insE_no hk2 her2 (.inr c31)|exact (insE_no hk2 her2 (.inl g24)).symm|exact (insE_no hk2 her2 (.inr c31)).symm|rfl)) Bq))))))))))))))))))
   ·exact A4 (Ak (Ai (A0 (Gr (Rad C C) (Gm C (Bf (Ch ((k+1)) om (hL:=(Aa C (Aa C (Aa (Dl C (by first|omega|(dsimp only<;>omega)|exact insE_yes hk2 her2 g24 c31|exact (insE_yes hk2 her2 g24 c31).symm|exact insE_no hk2 her2 (.inl g24)|exact insE_no hk2 her2 (.inr c31)|exact (insE_no hk2 her2 (.inl g24)).symm|exact (insE_no hk2 her2 (.inr c31)).symm|rfl)) (Aa C (Aa C (Aa C (Aa (Dl C (by first|omega|(dsimp only<;>omega)|exact insE_yes hk2 her2 g24 c31|exact (insE_yes hk2 her2 g24 c31).symm|exact insE_no hk2 her2 (.inl g24)|exact insE_no hk2 her2 (.inr c31)|exact (insE_no hk2 her2 (.inl g24)).symm|exact (insE_no hk2 her2 (.inr c31)).symm|rfl)) Bq)))))))))))))))
  ·exact eb (eb (eb (eb (eb (eb (Gr (Al C C) (Ah (Av (S9 31 6 1 2 4 5 11 12 13 C C C C C C C C C) (Eo C (A4 (Ak (Ai (A0 (Gr (Rad C C) (Gm C (Bf (Ch ((k+1)) om (hL:=(Aa C (Aa C (Aa (Dl C (by first|omega|(dsimp only<;>omega)|exact insE_yes hk2 her2 g24 c31|exact (insE_yes hk2 her2 g24 c31).symm|exact insE_no hk2 her2 (.inl g24)|exact insE_no hk2 her2 (.inr c31)|exact (insE_no hk2 her2 (.inl g24)).symm|exact (insE_no hk2 her2 (.inr c31)).symm|rfl)) (Aa C (Aa C (Aa C (Aa (Dl C (by first|omega|(dsimp only<;>omega)|exact insE_yes hk2 her2 g24 c31|exact (insE_yes hk2 her2 g24 c31).symm|exact insE_no hk2 her2 (.inl g24)|exact insE_no hk2 her2 (.inr c31)|exact (insE_no hk2 her2 (.inl g24)).symm|exact (insE_no hk2 her2 (.inr c31)).symm|rfl)) Bq)))))))))))))))))))))))))
 ·refine Bp (Ac (Ac (Aw (Ai (Au (Aj (Gm C ?_)))))))
  have hfull:es.take k=es:=List.take_of_length_le om
  rw [hfull]
  refine Gc2 (Am call171 C C (MList_ok wb (Bw hT Ay))) λad3 cp4=>?_
  refine Gr (Bz Ad C) (Gm C (Ah (A6 (Ca (σ:=Nat) (λs=>([(2,.pointer (some ⟨b1,0,none⟩)),(4,e7 (insE wb es)),(5,e7 ((s:Nat):Int)),(41,.slice ad3 (eo wb).length cp4),(42,e7 ((((eo wb).length:Nat):Int))),(43,e7 ((s:Nat):Int))]:Env)) (λs=>vc 3 (.slice ad3 (eo wb).length cp4) (eo wb)::e8 b1 [ve,vw,vb,vk,U64 al,U64 (0#64)] 211::I) (λs=>(s<=(eo wb).length)) (λs=>(eo wb).length - s) 0 om (Aa C (Aa C (Aa (Dl C (by first|omega|(dsimp only<;>omega)|exact insE_yes hk2 her2 g24 c31|exact (insE_yes hk2 her2 g24 c31).symm|exact insE_no hk2 her2 (.inl g24)|exact insE_no hk2 her2 (.inr c31)|exact (insE_no hk2 her2 (.inl g24)).symm|exact (insE_no hk2 her2 (.inr c31)).symm|rfl)) (Aa C (Aa C (Aa (Dl C (by first|omega|(dsimp only<;>omega)|exact insE_yes hk2 her2 g24 c31|exact (insE_yes hk2 her2 g24 c31).symm|exact insE_no hk2 her2 (.inl g24)|exact insE_no hk2 her2 (.inr c31)|exact (insE_no hk2 her2 (.inl g24)).symm|exact (insE_no hk2 her2 (.inr c31)).symm|rfl)) Bq)))))) A5 ?_))))
  rintro k hp
  have hk:=hp
  have hib:=insE_bd wb es
  have hll:=Em wb
  have hvr:k<(eo wb).length->0<=(e_ (eo wb) k)/\(e_ (eo wb) k)<nd:=λh=>by have hmm:=Cq (xs:=eo wb) (i:=(k:Int)) om om;have h1:=Fd hmm;have h2:=hW _ hmm;omega
  refine Aj (Gr (Bi C C) (Ah (Au (Bd C (λc44=>?_) (λc44=>?_)))))
  ·refine A4 (Ai (Au (A6 (Aj (Gr (A2 (α:=Int) (xs:=eo wb) Ad ef C C Bk om om) (Gr (B3 (xs:=eo wb) ef C Bk om om) (Ga C ?_)))))))
   have hv2:=hvr om
   refine Ah (Aj (Gm C (Gf fld211_2 C (Gl ty22 ?_))))
   refine Gm C (Gr (A2 (α:=Int) (xs:=bs) Ad ef C C (Bj hb) om om) (Gr (B3 (xs:=bs) ef C (Bj hb) om om) ?_))
   rw [hP.b0 (e_ (eo wb) k) hv2.1 hv2.2]
   refine Gr (Rad C C) (Ga C (Ah (Av (S7 4 9 2 5 41 42 43 C C C C C C C) (A0 (Gm C (Gf fld211_3 C (Gl ty22 ?_)))))))
   refine Gm C (Gr (A2 (α:=Int) (xs:=cs) Ad ef C C (Bj hkc) om om) (Gr (B3 (xs:=cs) ef C (Bj hkc) om om) ?_))
   rw [hP.c1 (e_ (eo wb) k) hv2.1 hv2.2]
   exact Gr (Rad C C) (Ga C (Bf (Ak (Ai (Av (S6 5 4 2 41 42 43 C C C C C C) (A0 (Gr (Rad C C) (Gm C (Bf (Ch ((k+1)) om (hL:=(Aa C (Aa (Dl C (by first|omega|(dsimp only<;>omega)|exact insE_yes hk2 her2 g24 c31|exact (insE_yes hk2 her2 g24 c31).symm|exact insE_no hk2 her2 (.inl g24)|exact insE_no hk2 her2 (.inr c31)|exact (insE_no hk2 her2 (.inl g24)).symm|exact (insE_no hk2 her2 (.inr c31)).symm|rfl)) (Aa (Dl C (by first|omega|(dsimp only<;>omega)|exact insE_yes hk2 her2 g24 c31|exact (insE_yes hk2 her2 g24 c31).symm|exact insE_no hk2 her2 (.inl g24)|exact insE_no hk2 her2 (.inr c31)|exact (insE_no hk2 her2 (.inl g24)).symm|exact (insE_no hk2 her2 (.inr c31)).symm|rfl)) (Aa C (Aa C (Aa (Dl C (by first|omega|(dsimp only<;>omega)|exact insE_yes hk2 her2 g24 c31|exact (insE_yes hk2 her2 g24 c31).symm|exact insE_no hk2 her2 (.inl g24)|exact insE_no hk2 her2 (.inr c31)|exact (insE_no hk2 her2 (.inl g24)).symm|exact (insE_no hk2 her2 (.inr c31)).symm|rfl)) Bq)))))))))))))))))
  ·refine Bp (Ac (Ac (Aw (Ai (Aj (Gm C (Gm C (Ga C (Ga C (Ah (Az ?_)))))))))))
   have hkk:(k:Int)=cntB wb:=by unfold cntB;omega
   exact C4 C C C I Ay ⟨by rw [hkk],rfl⟩
theorem Arc_ok{κ:Ctx}{I:List Item}{b:Nat}{nn:Int}{a:Option Addr}{c:Nat}{arcs:List Arc}(f t m:Int)(hlen:arcs.length<=100000):eu prog κ 281 [e7 f,e7 t,e7 m,.pointer (some ⟨b,0,none⟩)] (e8 b [e7 nn,e7 0,e7 1,.slice a arcs.length c] 303::vc 305 (.slice a arcs.length c) (arcs)::I) (λr J=>∃a2 c2,r=e7 ((arcs.length:Nat):Int)/\J=e8 b [e7 nn,e7 0,e7 1,.slice a2 (arcs++[(⟨f,t,m⟩:Arc)]).length c2] 303::vc 305 (.slice a2 (arcs++[(⟨f,t,m⟩:Arc)]).length c2) (arcs++[(⟨f,t,m⟩:Arc)])::I):=by
 refine Ce4 Tryz.func281 C C ?_
 refine Aj (Ga C (Ah (Aj (Gf fld303_3 C (Gl ty301 ?_)))))
 refine Gm C (Gm C (Gm C (Gr (Bc (cells:=[_,_,_]) ty305 Tryz.underlying305 pl305 C C) (Ge1 (Cj (α:=Arc) (cs:=[_,_,_]) (xs:=[⟨f,t,m⟩]) Dx ty305 C C dc dc C C C C) λad1=>?_))))
 refine Ge2 (Cn (α:=Arc) (e:=305) (xs:=arcs) (ys:=([⟨f,t,m⟩]:List Arc)) Dx ty305 C C C mm Bk lcn dc C (λ_ _=>am)) λad2 cp3=>?_
 refine Gf fld303_3 C (Ge0 (B4 (cs:=[_,_,_,_]) (vs:=[_]) (cs':=[_,_,_,_]) ty301) ?_)
 refine Ah (Av (S1 3 C) (Aj (Gf fld303_3 C (Gl ty301 ?_))))
 refine Gr (Bz Dx C) (Gr (Runs.sub C C (by unfold InR;simp only [List.length_append,List.length_cons,List.length_nil];omega)) (Ga C (Ah (Az ?_))))
 have hal:(((arcs++[(⟨f,t,m⟩:Arc)]).length:Nat):Int) - 1=((arcs.length:Nat):Int):=by simp only [List.length_append,List.length_cons,List.length_nil];omega
 exact Ba C C (e8 b [e7 nn,e7 0,e7 1,.slice ad2 (arcs++[(⟨f,t,m⟩:Arc)]).length cp3] 303::vc 305 (.slice ad2 (arcs++[(⟨f,t,m⟩:Arc)]).length cp3) (arcs++[(⟨f,t,m⟩:Arc)])::I) Bv ⟨ad2,cp3,by rw [hal],rfl⟩
theorem Part_ok{κ:Ctx}{I:List Item}{ve vw vb vk vf:Value}{al:BitVec 64}{fl:List Int}{p q i total:Int}(hf:Sl κ I vf fl)(hp:p<fl.length)(hq:q<fl.length)(hb:∀x∈fl,0<=x/\x<=4096)(ht:0<=total/\total<=4096):eu prog κ 283 [.agg #[ve,vw,vb,vk,U64 al,U64 (0#64)],e7 i,.agg #[e7 p,e7 q],vf,e7 total] I (λr J=>∃x:Int,r=e7 x/\(0<=p->0<=q->x=total - e_ fl q)/\I=J):=by
 refine Ce5 Tryz.func283 C C ?_
 refine Aj (Ge1 (Bg (cs:=[_,_,_,_,_,_]) C C C) λb1=>Ge1 (Bg (cs:=[_,_]) C C C) λb2=>Ga C (Ah (Aj (Ge1 (A9 ty64 C) λb3=>Ah (Au (Aj (Gl2 ty64 ?_)))))))
 refine Gm C (Ah (A6 (Ca (σ:=Nat×Int×Int) (λs=>([(3,vf),(4,e7 total),(7,.pointer (some ⟨b2,0,none⟩)),(11,.pointer (some ⟨b3,0,none⟩)),(15,.agg #[e7 p,e7 q]),(16,e7 ((s.1:Nat):Int))]:Env)) (λs=>e8 b3 [e7 (s.2.1),e7 (s.2.2)] 64::e8 b2 [e7 p,e7 q] 64::e8 b1 [ve,vw,vb,vk,U64 al,U64 (0#64)] 211::I) (λs=>(s.1<=2)/\(0<=s.2.1/\s.2.1<=4096)/\(0<=s.2.2/\s.2.2<=4096)/\(0<=p->0<=q->2<=s.1->s.2.2=e_ fl q)) (λs=>2 - s.1) (0,0,0) (show ((0:Nat)<=2)/\(0<=(0:Int)/\(0:Int)<=4096)/\(0<=(0:Int)/\(0:Int)<=4096)/\(0<=p->0<=q->2<=(0:Nat)->(0:Int)=e_ fl q) from ⟨om,om,om,(λ_ _ h=>by omega)⟩) (Aa C (Aa C (Aa C (Aa C (Aa C (Aa Cr Bq)))))) A5 ?_)))
 rintro ⟨j,e0,e1⟩ hp
 dsimp only at hp ⊢
 obtain ⟨hj,he0,he1,he2⟩:=hp
 have hpq:(if (j:Int)=0 then p else q)<fl.length:=by split<;>assumption
 refine Aj (Gr (Bi C C) (Ah (Au (Bd C (λc17=>?_) (λc17=>?_)))))
 ·refine A4 (Ai (Au (A6 (Aj (Gm C (Gr (Runs.index2 (ix2a _ _) (ix2b _ _) C C om) (Ga C (Ga C (Ah (Aj (Gm C (Gr (Cu C C) (Ah (Bd C (λc21=>?_) (λc21=>?_)))))))))))))))
  ·refine A0 (Gm C (Gm C (Gm C (Gr (A2 (α:=Int) (xs:=fl) Ad ef C C (Bj hf) om om) (Gr (B3 (xs:=fl) ef C (Bj hf) om om) ?_)))))
   have hvx:=hb _ (Cq (xs:=fl) (i:=(if (j:Int)=0 then p else q)) om om)
   have hxe:j=1->e_ fl (if (j:Int)=0 then p else q)=e_ fl q:=λh=>by rw [if_neg om]
   generalize e_ fl (if (j:Int)=0 then p else q)=xv at hvx hxe ⊢
   refine Gr (Cv Cm ty2 C C om om) (Ge0 (Eff.setC2 (p:=e0) (q:=e1) (j:=(j:Int)) (n:=xv) ef C C C om am) ?_)
   exact Bf (Ak (Ai (Av (S6 3 4 7 11 15 16 C C C C C C) (A0 (Gr (Rad C C) (Gm C (Bf (Ch ((j+1),(if (j:Int)=0 then xv else e0),(if (j:Int)=0 then e1 else xv)) (by dsimp only;exact ⟨om,(by first|exact he0|(split<;>first|exact he0|exact hvx)),(by first|exact he1|(split<;>first|exact he1|exact hvx)),(λh1 h2 h3=>by first|(rw [if_neg om];exact hxe om)|(exfalso;rcases (show j=0\/j=1 by omega) with e|e<;>subst e<;>simp at c21<;>omega))⟩)))))))))
  ·exact A4 (Ak (Ai (A0 (Gr (Rad C C) (Gm C (Bf (Ch ((j+1),(e0),(e1)) (by dsimp only;exact ⟨om,(by first|exact he0|(split<;>first|exact he0|exact hvx)),(by first|exact he1|(split<;>first|exact he1|exact hvx)),(λh1 h2 h3=>by first|(rw [if_neg om];exact hxe om)|(exfalso;rcases (show j=0\/j=1 by omega) with e|e<;>subst e<;>simp at c21<;>omega))⟩))))))))
 ·refine Bp (Ac (Ac (Aw (Ai (Aj (Gm C (Gr (Cv Cm ty2 C C om om) (Gl ef ?_))))))))
  refine Gr (Rsu C C) (Gr (Cv Cm ty2 C C om om) (Gl ef ?_))
  refine Gr (Rsu C C) (Ga C (Ah (Av (S3 14 7 11 C C C) (Au (Aj (Gr (Cv Cm ty2 C C om om) (Gl ef ?_)))))))
  refine Gr (Cu C C) (Gm C (Bs (d:=39) C (λg39=>?_) (λg39=>?_)))
  ·refine e9 (Cv Cm ty2 C C om om) (e9 (As ef) ?_)
   refine e9 (Bi C C) (Gr (Ap C C) (Ah (Bd C (λc43=>?_) (λc43=>?_))))
   ·refine A0 (Ga C (Ah (Aj (Gr (Cv Cm ty2 C C om om) (Gl ef ?_)))))
    exact Gm C (Gr (Rad C C) (Ga C (Ah (Av (S1 10 C) (Az (Ba C C I Ay ⟨_,rfl,λh1 h2=>by have h3:=he2 h1 h2 om;omega,rfl⟩))))))
   ·refine A4 (Ai (Aj (Gr (Cv Cm ty2 C C om om) (Gl ef ?_))))
    exact Gm C (Gr (Rad C C) (Ga C (Ah (Av (S1 10 C) (Az (Ba C C I Ay ⟨_,rfl,λh1 h2=>by have h3:=he2 h1 h2 om;omega,rfl⟩))))))
  ·refine eb (eb (eb (Gr (Al C C) (Ah (Eo C (A4 (Ai (Aj (Gr (Cv Cm ty2 C C om om) (Gl ef ?_))))))))))
   exact Gm C (Gr (Rad C C) (Ga C (Ah (Av (S1 10 C) (Az (Ba C C I Ay ⟨_,rfl,λh1 h2=>by have h3:=he2 h1 h2 om;omega,rfl⟩))))))
end Go.Sl
