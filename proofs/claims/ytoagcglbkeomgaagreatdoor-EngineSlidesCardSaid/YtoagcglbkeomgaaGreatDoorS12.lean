/- A part of the proofs of statements of this seat: contracts of functions, and the plain laws that they lean on. No conditions. -/
import Derived.Test.YtoagcglbkeomgaaGreatDoorS11
set_option linter.unusedVariables false
set_option linter.unusedSimpArgs false
set_option linter.unusedSectionVars false
open Go.Proofs.Tryz (prog)
open List (replicate)
set_option maxHeartbeats 2000000
namespace Go.Sl
open Go.Proofs
set_option maxRecDepth 4000
variable{n:Nat}{nd v:Int}{rows:List (BitVec 64)}{es:List Pt}{va:Value}
def coreR0(nd:Int)(es:List Pt):List (Int×Nat):=coreR (ek nd es) (allB ((ek nd es).length:Int)) 0
def coreL(nd:Int)(es:List Pt):List Int:=numL (ek nd es).length (coreR0 nd es)
def coreO(nd:Int)(es:List Pt):List Int:=ordL (coreR0 nd es)
def coreN(nd:Int)(es:List Pt):List Int:=if checkG nd es≠0 then [] else coreL nd es
theorem mem_allN(h:n<=64){u:Int}:u∈eo (allB (n:Int))↔0<=u/\u<n:=by
 constructor
 ·intro hu
  have Z:=Ey hu
  rw [D5,getLsb_allB om om om,decide_eq_true_eq] at hu
  omega
 intro hu
 rw [D5,getLsb_allB om om om,decide_eq_true_eq]
 omega
theorem coreL_len(nd:Int)(es:List Pt):(coreL nd es).length=(ek nd es).length:=numL_len _ _
theorem ordL_len(l:List (Int×Nat)):(ordL l).length=l.length:=List.length_map ..
theorem bit_sh(Z:0<=v)(M:v<64):bitB v=1#64 <<< v.toNat:=by unfold bitB;rw [if_neg om]
theorem deg_full(h:SymB n rows){k:Int}(M:0<=k)(Z:k<n):onesB (e_ rows k)=((degB rows (allB (n:Int)) k:Nat):Int):=by
 rw [ones_pop]
 unfold degB
 congr 1
 refine ((List.perm_ext_iff_of_nodup (Dp _)<|Dp _).2 λu=>?_).length_eq
 rw [mem_andB]
 refine ⟨λhu=>⟨hu,(mem_allN h.le).2 ⟨(Ey hu).1,h.lt k u M Z hu⟩⟩,λhu=>hu.1⟩
theorem degB_all(h:SymB n rows)(hn:1<=n)(left:BitVec 64)(v:Int):degB rows left v<=n - 1:=by
 by_cases hv:v.toNat<n
 ·have e:e_ rows v=e_ rows v.toNat:=by show rows.getD v.toNat _=rows.getD ((v.toNat:Nat):Int).toNat _;rw [Int.toNat_natCast]
  have:=degB_lt h left (v:=(v.toNat:Int)) om om
  unfold degB at this ⊢
  rw [e];omega
 have e:e_ rows v=0#64:=by
  unfold e_
  rw [List.getD_eq_getElem?_getD,List.getElem?_eq_none (by rw [h.len];omega)];rfl
 unfold degB
 rw [e,BitVec.zero_and,Ea];simp
theorem rows_sym(Z:GrOk nd es):SymB (ek nd es).length (ek nd es):=by
 have h:=Z.rows.symB Z
 have e:=h.len
 rw [←e] at h;exact h
theorem core_step{left:BitVec 64}{Z dd:Nat}{done:List (Int×Nat)}{all:List (Int×Nat)}(M:done++coreR rows left Z=all)(hT:Takes rows left v)(hd:degB rows left v=dd) :
  (done++[(v,max Z dd)])++coreR rows (left &&& ~~~(1#64 <<< v.toNat)) (max Z dd)=all:=by
 rw [←M,coreR_step hT,hd,List.append_assoc];rfl
theorem cnt_allN(h:n<=64):(eo (allB (n:Int))).length=n:=by
 have Z:(eo (allB (n:Int))).Perm ((List.range n).map fun (i:Nat)=>(i:Int)):=(List.perm_ext_iff_of_nodup (Dp _) (by
  exact List.Pairwise.map _ (λa b h=>by omega) (List.nodup_range (n:=n)))).2 λu=>by
  rw [mem_allN h,List.mem_map]
  constructor
  ·intro hu;exact ⟨u.toNat,List.mem_range.2 om,by omega⟩
  rintro ⟨i,hi,rfl⟩;have:=List.mem_range.1 hi;omega
 have:=Z.length_eq
 rwa [List.length_map,List.length_range] at this
theorem CPeel_ok{κ:Ctx}{I:List Item}(hl:Sl κ I va es)(hG:GrOk nd es)(hT:TabRd κ I 0 tzCells):eu prog κ 129 [.agg #[e7 nd,va]] I (λr J=>∃a c a' c',r = .tuple #[.slice a (coreO nd es).length c,.slice a' (coreL nd es).length c']/\J=vk 3 a c (coreO nd es)::vk 3 a' c' (coreL nd es)::I):=by
 have hS:=rows_sym hG
 have bx:=hS.le
 refine Ce1 Tryz.func129 C C ?_
 refine Ad<|Ge1 (Bd (cs:=[_,_]) C C C) λb1=>Ga C<|Ga C<|Ac<|W.scope0 (l:=0) C ?_
 refine Ad<|Gl2 ty38 ?_
 refine G.e (Aj c_ C C<|MRows_ok (nd:=nd)<|A8 hl) ?_
 rintro _ _ ⟨_,_,⟨ad,ab,rfl,rfl⟩,rfl,rfl⟩
 have bf:=rowsB_len nd es
 refine Ga C<|Ac<|Ad<|Ge1 (A4 ty208 C) λb4=>?_
 show G prog κ _ _ _ _ ([(5,pt b4),(4,.slice ad (ek nd es).length ab),(16,.slice ad (ek nd es).length ab),(15,.agg #[e7 nd,va]),(3,.slice none 0 0),(2,.slice none 0 0),(1,pt b1),(0,.agg #[e7 nd,va])]:Env) (e8 b4 (cells (replicate 64 (0#64):List (BitVec 64))) 208::vk 207 ad ab (ek nd es)::e8 b1 [e7 nd,va] 38::I)
 refine Ac<|Ad<|Gm C<|Gr (Bk B8 C)<|Ge2 (E7 (α:=Int) (n:=(ek nd es).length) Af ef C C C om om dc C) λah ae=>?_
 refine Ga C<|Ac<|Ar<|Ad<|Gm C<|Gr (Bk B8 C)<|Gm C<|Ac<|Ap (S7 22 21 20 6 5 4 2)<|A5<|B1 (σ:=Nat×(List Int)×(List<|BitVec 64)) (λs=>([(2,.slice none 0 0),(4,.slice ad (ek nd es).length ab),(5,pt b4),(6,.slice ah (replicate ((ek nd es).length) (default:Int)).length ae),(20,.slice ad (ek nd es).length ab),(21,e7<|(((ek nd es).length:Nat):Int)),(22,e7 ((s.1:Nat):Int))]:Env)) (λs=>vc 3 (.slice ah (replicate ((ek nd es).length) (default:Int)).length ae) (s.2.1)::e8 b4 (cells (s.2.2:List (BitVec 64))) 208::vk 207 ad ab (ek nd es)::e8 b1 [e7 nd,va] 38::I) (λs=>(s.1<=(ek nd es).length)/\(BkOk (ek nd es).length (λu=>0<=u/\u<((s.1:Nat):Int)) (degB (ek nd es)<|allB ((ek nd es).length:Int)) s.2.1 s.2.2)) (λs=>(ek nd es).length - s.1) (0,replicate ((ek nd es).length) (default:Int),replicate 64<|0#64) (show ((0:Nat)<=(ek nd es).length)/\(BkOk (ek nd es).length (λu=>0<=u/\u<(((0:Nat):Nat):Int)) (degB (ek nd es)<|allB ((ek nd es).length:Int)) (replicate ((ek nd es).length) (default:Int):List Int) (replicate 64 (0#64):List (BitVec 64))) from ⟨om,(BkOk.start _ _)⟩) (cx4<|cx2<|Aa Cd Bp) (show Fit κ _ (vk 3 ah ae (replicate ((ek nd es).length) (default:Int))::e8 b4 (cells ((replicate 64<|0#64):List (BitVec 64))) 208::vk 207 ad ab (ek nd es)::e8 b1 [e7 nd,va] 38::I) from Bg) ?_
 rintro ⟨k,dgs,bks⟩ hp
 dsimp only at hp ⊢
 obtain ⟨hk,hB⟩:=hp
 have b5:=hB.dlen
 have b9:=hB.blen
 have a4:k<(ek nd es).length->onesB (e_ (ek nd es) k)=((degB (ek nd es) (allB ((ek nd es).length:Int)) (k:Int):Nat):Int):=λh=>deg_full hS om om
 have a1:k<(ek nd es).length->((degB (ek nd es) (allB ((ek nd es).length:Int)) (k:Int):Nat):Int)<64:=λh=>by have:=degB_lt hS (allB ((ek nd es).length:Int)) (v:=(k:Int)) om om;omega
 refine Ad<|Gr (A9 C C)<|Ac<|Ar<|A7 C (λbk=>?_)<|λbk=>?_
 ·refine Aw (Ah<|Ar<|A5<|Ad<|Gm C<|Gr (A3 (α:=(BitVec 64)) (xs:=ek nd es) B8 ty207 C C Bi om oo)<|Gr (B9 (α:=(BitVec 64)) (xs:=ek nd es) (u:=U64 ((e_ (ek nd es) k))) ty207 C Bi om oo C)<|Ga C<|Ga C<|Ac<|Ad<|Gm C<|Gm C<|Gm C<|Gc0 (Aj c_ C C<|MCount_ok<|e_ (ek nd es) k) ?_)
  refine Gr (A3 (α:=Int) (xs:=dgs) Af ef C C Bi om oo)<|Ge0 (C1 (α:=Int) (xs:=dgs) (e:=3) (new:=onesB (e_ (ek nd es) k)) ef C C C om oo am) ?_
  have a8:=a4 om
  have bh:=a1 om
  have bb:e_ (List.set dgs ((k:Int)).toNat (onesB<|e_ (ek nd es) k)) (k:Int)=((degB (ek nd es) (allB ((ek nd es).length:Int)) (k:Int):Nat):Int):=by rw [En _ _ _ _ om om om,if_pos rfl,a8]
  refine Ac<|Ap (S8 7 2 4 5 6 20 21 22)<|Bs mixed<|Cc (vc 3 (.slice ah (replicate ((ek nd es).length) (default:Int)).length ae) (List.set dgs ((k:Int)).toNat (onesB<|e_ (ek nd es) k))::e8 b4 (cells (bks:List (BitVec 64))) 208::vk 207 ad ab (ek nd es)::e8 b1 [e7 nd,va] 38::I) 10<|Dr 0 C (Ai C)<|Dr 1 C (Ai C)<|Dr 2 C (A3 (α:=Int) (xs:=List.set dgs ((k:Int)).toNat (onesB<|e_ (ek nd es) k)) Af ef C C Bi om oo)<|Dr 3 C (Bx (xs:=List.set dgs ((k:Int)).toNat (onesB<|e_ (ek nd es) k)) ef C Bi om oo)<|Dr 4 C (Cg Db ty207 C C om oo)<|Dr 5 C (Fk (xs:=bks) ty207 C (D8 mm) om oo)<|Dr 6 C (Ai C)<|Ds1 7<|Se C (Aj c_ C C<|Bit_ok (k:Int)) ?_
  rintro _ _ ⟨_,_,⟨rfl,rfl⟩,rfl,rfl⟩
  refine ⟨Ax,?_⟩
  refine Dr 8 C (Ei (a:=e_ bks (e_ (List.set dgs ((k:Int)).toNat (onesB<|e_ (ek nd es) k)) (k:Int))) (b:=bitB (k:Int)) C C)<|Dr 9 C (Cg Db ty207 C C om oo)<|Cs kr ?_
  refine Ae 10 C (Eff.setAU (xs:=bks) (i:=e_ (List.set dgs ((k:Int)).toNat (onesB<|e_ (ek nd es) k)) (k:Int)) (n:=(e_ bks<|e_ (List.set dgs ((k:Int)).toNat (onesB<|e_ (ek nd es) k)) (k:Int)) ||| (bitB (k:Int))) ty207 C C C om oo am) ?_
  rintro _ _ ⟨rfl,rfl⟩
  refine Ct kr ?_
  exact Am<|Ah<|Ap (S7 2 4 5 6 20 21 22)<|Ay<|Gr (Rad C C)<|Gm C<|Bj<|Cb ((k+1),(List.set dgs ((k:Int)).toNat (onesB<|e_ (ek nd es) k)),(List.set bks (e_ (List.set dgs ((k:Int)).toNat (onesB<|e_ (ek nd es) k)) (k:Int)).toNat ((e_ bks<|e_ (List.set dgs ((k:Int)).toNat (onesB<|e_ (ek nd es) k)) (k:Int)) ||| (bitB (k:Int)))))<|by dsimp only;exact ⟨om,(by have hN:=hB.push (S':=λu=>0<=u/\u<((k+1:Nat):Int)) (v:=(k:Int)) (c:=((degB (ek nd es) (allB ((ek nd es).length:Int)) (k:Int):Nat):Int)) om om om (λu=>by constructor<;>intro h<;>omega) (λh=>by omega) C (a1 om);rw [bb,a4 om,bit_sh om om];exact hN)⟩
 refine Bt<|Aq<|Aq<|Bb<|Ah<|Ad<|Gm C<|Gr (Bk B8 C)<|Ge2 (E7 (α:=Int) (n:=(ek nd es).length) Af ef C C C om om dc C) λaj ai=>?_
 refine Ga C<|Ac<|Ad<|Gm C<|Gr (Bk B8 C)<|Gc0 (Aj c_ C C<|MaskAll_ok (((ek nd es).length:Nat):Int)) ?_
 refine Ga C<|Ac<|Ap (S6 9 3 2 4 5 6)<|Ad<|Ga C<|Ac<|Ar<|W.label ?_
 refine Ah<|Ar<|A5<|B1 (σ:=(List<|Int×Nat)×(BitVec 64)×Nat×(List Int)×(List<|BitVec 64)×(Option Addr)×Nat) (λs=>([(2,.slice s.2.2.2.2.2.1 (ordL s.1).length s.2.2.2.2.2.2),(3,.slice aj (replicate ((ek nd es).length) (default:Int)).length ai),(4,.slice ad (ek nd es).length ab),(5,pt b4),(6,.slice ah (replicate ((ek nd es).length) (default:Int)).length ae),(9,U64<|s.2.1),(10,e7 ((s.2.2.1:Nat):Int))]:Env)) (λs=>vk 3 s.2.2.2.2.2.1 s.2.2.2.2.2.2 (ordL s.1)::vc 3 (.slice aj (replicate ((ek nd es).length) (default:Int)).length ai) (numL (ek nd es).length s.1)::vc 3 (.slice ah (replicate ((ek nd es).length) (default:Int)).length ae) (s.2.2.2.1)::e8 b4 (cells (s.2.2.2.2.1:List (BitVec 64))) 208::vk 207 ad ab (ek nd es)::e8 b1 [e7 nd,va] 38::I) (λs=>(s.1++coreR (ek nd es) s.2.1 s.2.2.1=coreR0 nd es)/\(BkOk (ek nd es).length (λu=>u∈eo s.2.1) (degB (ek nd es) s.2.1) s.2.2.2.1 s.2.2.2.2.1)/\(s.1.length+(eo s.2.1).length=(ek nd es).length)/\(s.2.2.1<=63)) (λs=>(eo s.2.1).length) ([],(allB ((ek nd es).length:Int)),0,dgs,bks,none,0) (show (([]:List (Int×Nat))++coreR (ek nd es) ((allB ((ek nd es).length:Int)):BitVec 64) (0:Nat)=coreR0 nd es)/\(BkOk (ek nd es).length (λu=>u∈eo ((allB ((ek nd es).length:Int)):BitVec 64)) (degB (ek nd es) ((allB ((ek nd es).length:Int)):BitVec 64)) (dgs:List Int) (bks:List (BitVec 64)))/\(([]:List (Int×Nat)).length+(eo ((allB ((ek nd es).length:Int)):BitVec 64)).length=(ek nd es).length)/\((0:Nat)<=63) from ⟨rfl,(hB.congr (λu=>(mem_allN hS.le).trans (by constructor<;>intro h<;>omega))<|λu _=>rfl),(by have:(eo<|allB ((ek nd es).length:Int)).length=(ek nd es).length:=cnt_allN hS.le;simp only [List.length_nil];omega),om⟩) (Aa (C8 C<|by first|rfl|(rw [ordL_snoc])|simp)<|cx4<|Aa (C8 C<|by first|rfl|(rw [ordL_snoc])|simp)<|Aa Cd Bp) (show Fit κ _ (vk 3 none 0 (ordL<|[])::vc 3 (.slice aj (replicate ((ek nd es).length) (default:Int)).length ai) (numL (ek nd es).length ([]))::vc 3 (.slice ah (replicate ((ek nd es).length) (default:Int)).length ae) ((dgs))::e8 b4 (cells ((bks):List (BitVec 64))) 208::vk 207 ad ab (ek nd es)::e8 b1 [e7 nd,va] 38::I) from (Co (Cf (α:=Int) _ _) Bl)) ?_
 rintro ⟨done,left,kk,ap,M,ao,co⟩ hp
 dsimp only at hp ⊢
 obtain ⟨hc,au,b3,ca⟩:=hp
 have bu:=au.dlen
 have br:=au.blen
 have hold:=ordL_len done
 have b2:=numL_len (ek nd es).length done
 have aw:∀u∈eo left,degB (ek nd es) left u<64:=λu hu=>by have hr:=au.rng u hu;have:=degB_lt hS left hr.1 hr.2;omega
 refine Ar<|Ad<|Gm C<|Gr (Runs.neB (a:=left) (b:=0#64) C C)<|Ac<|A7 C (λa6=>?_)<|λa6=>?_
 ·refine Aw (Ah<|A5<|Ad<|Gm C<|Ac<|A5<|B1 (σ:=Nat) (λs=>([(2,.slice ao (ordL done).length co),(3,.slice aj (replicate ((ek nd es).length) (default:Int)).length ai),(4,.slice ad (ek nd es).length ab),(5,pt b4),(6,.slice ah (replicate ((ek nd es).length) (default:Int)).length ae),(9,U64 left),(10,e7<|(kk:Int)),(51,e7 ((s:Nat):Int))]:Env)) (λs=>vk 3 ao co (ordL done)::vc 3 (.slice aj (replicate ((ek nd es).length) (default:Int)).length ai) (numL (ek nd es).length done)::vc 3 (.slice ah (replicate ((ek nd es).length) (default:Int)).length ae) (ap)::e8 b4 (cells (M:List (BitVec 64))) 208::vk 207 ad ab (ek nd es)::e8 b1 [e7 nd,va] 38::I) (λs=>(s<=64)/\(∀c:Int,0<=c->c<((s:Nat):Int)->e_ M c=0#64)) (λs=>64 - s) 0 (show ((0:Nat)<=64)/\(∀c:Int,0<=c->c<(((0:Nat):Nat):Int)->e_ M c=0#64) from ⟨om,(λc h1 h2=>by omega)⟩) (cx4<|cx2<|Aa C<|Aa Cd Bp) (show Fit κ _ (vk 3 ao co (ordL done)::vc 3 (.slice aj (replicate ((ek nd es).length) (default:Int)).length ai) (numL (ek nd es).length done)::vc 3 (.slice ah (replicate ((ek nd es).length) (default:Int)).length ae) (ap)::e8 b4 (cells (M:List (BitVec 64))) 208::vk 207 ad ab (ek nd es)::e8 b1 [e7 nd,va] 38::I) from Bg) ?_)
  rintro dd hp
  obtain ⟨b6,hz⟩:=hp
  refine Ad<|Gr (A9 C C)<|Ac<|Ar<|A7 C (λbp=>?_)<|λbp=>?_
  ·refine Aw (Ah<|Ar<|A5<|Ad<|Gm C<|Ga C<|Ac<|Ar<|Ad<|Gm C<|Gr (Cg Db ty207 C C om oo)<|Gr (Fk (xs:=M) ty207 C (D8 mm) om oo)<|Gr (Runs.eqB (a:=e_ M dd) (b:=0#64) C C)<|Ac<|Ap (S10 57 11 2 3 4 5 6 9 10 51)<|A7 C (λa7=>?_)<|λa7=>?_)
   ·exact Bt<|Aq<|Bb<|Ah<|Ay<|Gr (Rad C C)<|Gm C<|Bj<|Cb ((dd+1)) ⟨om,(λc h1 h2=>by by_cases e:c=(dd:Int);(· rw [e];assumption);(· exact hz c h1 om))⟩
   refine Aw<|Ah<|Ad<|Gm C<|Gr (Cg Db ty207 C C om oo)<|Gr (Fk (xs:=M) ty207 C (D8 mm) om oo)<|Gc0 (Aj c_ C C<|Least_ok (e_ M dd)<|Bn hT Ax) ?_
   have a9:=au.takes (d:=(dd:Int)) om om a7 hz aw
   generalize hvE:tzB (e_ M dd)=v at a9 ⊢
   obtain ⟨a5,bo⟩:=a9
   have ax:=a5.mem
   have cb:=au.rng v ax
   refine Ga C<|Ac<|Ap (S9 12 11 2 3 4 5 6 9 10)<|Ad<|Gm C<|Gm C<|Gr (Dm C C) ?_
   have bi:(if (kk:Int)<(dd:Int) then (dd:Int) else (kk:Int))=(((max kk dd):Nat):Int):=by split<;>omega
   rw [bi]
   refine Ga C<|Ac<|Ap (S9 10 12 11 2 3 4 5 6 9)<|Ad<|Gm C<|Gm C<|Gm C<|Gr (A3 (α:=Int) (xs:=numL (ek nd es).length done) Af ef C C Bi om oo)<|Ge0 (C1 (α:=Int) (xs:=numL (ek nd es).length done) (e:=3) (new:=(((max kk dd):Nat):Int)) ef C C C om oo am) ?_
   refine Ac<|Ad<|Gm C<|Gm C<|Ge1 (Ce (α:=Int) (cs:=[_]) (xs:=[v]) Af ef C C dc dc C C C C) λay=>?_
   refine Ge2 (B3 (α:=Int) (e:=3) (xs:=ordL done) (ys:=([v]:List Int)) Af ef C C C mm Bi lcn dc C<|λ_ _=>am) λan ak=>?_
   refine Ga C<|Ac<|Ap (S9 2 10 12 11 3 4 5 6 9)<|Ad<|Gm C<|Gm C<|G.e (Aj c_ C C<|Bit_ok v) ?_
   rintro _ _ ⟨_,_,⟨rfl,rfl⟩,rfl,rfl⟩
   rw [show bitB v=1#64 <<< (v).toNat from bit_sh om om]
   refine Gr (E2 (a:=left) (b:=1#64 <<< (v).toNat) C C)<|Ga C<|Ac<|Ap (S9 9 2 10 12 11 3 4 5 6)<|Ar<|Bs mixed<|Cc (vc 3 (.slice ay 1 1) (([v]:List Int))::vk 3 an ak ((ordL done)++([v]:List Int))::vc 3 (.slice aj (replicate ((ek nd es).length) (default:Int)).length ai) (List.set (numL (ek nd es).length done) (v).toNat ((((max kk dd):Nat):Int)))::vc 3 (.slice ah (replicate ((ek nd es).length) (default:Int)).length ae) (ap)::e8 b4 (cells (M:List (BitVec 64))) 208::vk 207 ad ab (ek nd es)::e8 b1 [e7 nd,va] 38::I) 7<|Dr 0 C (Ai C)<|Dr 1 C (Cg Db ty207 C C om oo)<|Dr 2 C (Fk (xs:=M) ty207 C (D8 mm) om oo)<|Dr 3 C (Ai C)<|Ds1 4<|Se C (Aj c_ C C<|Bit_ok v) ?_
   rintro _ _ ⟨_,_,⟨rfl,rfl⟩,rfl,rfl⟩
   refine ⟨Ax,?_⟩
   rw [show bitB v=1#64 <<< (v).toNat from bit_sh om om]
   refine Dr 5 C (E2 (a:=e_ M dd) (b:=1#64 <<< (v).toNat) C C)<|Dr 6 C (Cg Db ty207 C C om oo)<|Cs kr ?_
   refine Ae 7 C (Eff.setAU (xs:=M) (i:=(dd:Int)) (n:=(e_ M dd) &&& ~~~(1#64 <<< (v).toNat)) ty207 C C C om oo am) ?_
   rintro _ _ ⟨rfl,rfl⟩
   refine Ct kr ?_
   refine Ah<|Ap (S8 9 2 10 12 3 4 5 6)<|Ar<|Ad<|Gm C<|Gm C<|Gr (A3 (α:=(BitVec 64)) (xs:=ek nd es) B8 ty207 C C Bi om oo)<|Gr (B9 (α:=(BitVec 64)) (xs:=ek nd es) (u:=U64 ((e_ (ek nd es) v))) ty207 C Bi om oo C)<|Gm C<|Gr (Ek (a:=(e_ (ek nd es) v)) (b:=left &&& ~~~(1#64 <<< (v).toNat)) C C)<|Gc2 (Aj c_ C C<|MList_ok ((e_ (ek nd es) v) &&& (left &&& ~~~(1#64 <<< (v).toNat)))<|Bn hT Ax) λaq ar=>?_
   refine Gr (Bk Af C)<|Gm C<|Ac<|Ap (S10 92 91 90 9 2 10 3 4 5 6)<|A5<|B1 (σ:=Nat×(List Int)×(List<|BitVec 64)) (λs=>([(2,.slice an ((ordL done)++([v]:List Int)).length ak),(3,.slice aj (replicate ((ek nd es).length) (default:Int)).length ai),(4,.slice ad (ek nd es).length ab),(5,pt b4),(6,.slice ah (replicate ((ek nd es).length) (default:Int)).length ae),(9,U64<|left &&& ~~~(1#64 <<< (v).toNat)),(10,e7<|(((max kk dd):Nat):Int)),(90,.slice aq (eo<|(e_ (ek nd es) v) &&& (left &&& ~~~(1#64 <<< (v).toNat))).length ar),(91,e7<|(((eo<|(e_ (ek nd es) v) &&& (left &&& ~~~(1#64 <<< (v).toNat))).length:Nat):Int)),(92,e7 ((s.1:Nat):Int))]:Env)) (λs=>vk 3 aq ar (eo<|(e_ (ek nd es) v) &&& (left &&& ~~~(1#64 <<< (v).toNat)))::vc 3 (.slice ay 1 1) (([v]:List Int))::vk 3 an ak ((ordL done)++([v]:List Int))::vc 3 (.slice aj (replicate ((ek nd es).length) (default:Int)).length ai) (List.set (numL (ek nd es).length done) (v).toNat ((((max kk dd):Nat):Int)))::vc 3 (.slice ah (replicate ((ek nd es).length) (default:Int)).length ae) (s.2.1)::e8 b4 (cells (s.2.2:List (BitVec 64))) 208::vk 207 ad ab (ek nd es)::e8 b1 [e7 nd,va] 38::I) (λs=>(s.1<=(eo<|e_ (ek nd es) v &&& (left &&& ~~~(1#64 <<< (v).toNat))).length)/\(BkOk (ek nd es).length (λu=>u∈eo (left &&& ~~~(1#64 <<< (v).toNat))) (degM (ek nd es) left (eo<|e_ (ek nd es) v &&& (left &&& ~~~(1#64 <<< (v).toNat))) s.1) s.2.1 s.2.2)) (λs=>(eo<|e_ (ek nd es) v &&& (left &&& ~~~(1#64 <<< (v).toNat))).length - s.1) (0,ap,List.set M ((dd:Int)).toNat ((e_ M dd) &&& ~~~(1#64 <<< (v).toNat))) (show ((0:Nat)<=(eo<|e_ (ek nd es) v &&& (left &&& ~~~(1#64 <<< (v).toNat))).length)/\(BkOk (ek nd es).length (λu=>u∈eo (left &&& ~~~(1#64 <<< (v).toNat))) (degM (ek nd es) left (eo<|e_ (ek nd es) v &&& (left &&& ~~~(1#64 <<< (v).toNat))) (0:Nat)) (ap:List Int) (List.set M ((dd:Int)).toNat ((e_ M dd) &&& ~~~(1#64 <<< (v).toNat)):List (BitVec 64))) from ⟨om,((au.drop ax bo om<|λu=>mem_minus om).congr (λu=>Iff.rfl) (λu _=>degM_zero _ _ _ u))⟩) (cx4<|cx4<|Aa C<|Aa Cd Bp) (show Fit κ _ (vk 3 aq ar (eo<|(e_ (ek nd es) v) &&& (left &&& ~~~(1#64 <<< (v).toNat)))::vc 3 (.slice ay 1 1) (([v]:List Int))::vk 3 an ak ((ordL done)++([v]:List Int))::vc 3 (.slice aj (replicate ((ek nd es).length) (default:Int)).length ai) (List.set (numL (ek nd es).length done) (v).toNat ((((max kk dd):Nat):Int)))::vc 3 (.slice ah (replicate ((ek nd es).length) (default:Int)).length ae) ((ap))::e8 b4 (cells ((List.set M ((dd:Int)).toNat ((e_ M dd) &&& ~~~(1#64 <<< (v).toNat))):List (BitVec 64))) 208::vk 207 ad ab (ek nd es)::e8 b1 [e7 nd,va] 38::I) from Bg) ?_
   rintro ⟨j,Z,aa⟩ hp
   dsimp only at hp ⊢
   obtain ⟨hj,av⟩:=hp
   have bz:=av.dlen
   have bt:=av.blen
   have bw:(eo<|e_ (ek nd es) v &&& (left &&& ~~~(1#64 <<< (v).toNat))).length<=64:=Ex _
   have bg:j<(eo<|e_ (ek nd es) v &&& (left &&& ~~~(1#64 <<< (v).toNat))).length->(e_ (eo<|e_ (ek nd es) v &&& (left &&& ~~~(1#64 <<< (v).toNat))) (j:Int))∈eo (left &&& ~~~(1#64 <<< (v).toNat))/\(e_ (eo<|e_ (ek nd es) v &&& (left &&& ~~~(1#64 <<< (v).toNat))) (j:Int))∈eo (e_ (ek nd es) v):=λh=>by have h1:=B7 (xs:=(eo<|e_ (ek nd es) v &&& (left &&& ~~~(1#64 <<< (v).toNat)))) (i:=(j:Int)) om om;exact ⟨(mem_andB.1 h1).2,(mem_andB.1 h1).1⟩
   refine Ad<|Gr (A9 C C)<|Ac<|Ar<|A7 C (λbj=>?_)<|λbj=>?_
   ·refine Aw (Ah<|Ar<|A5<|Ad<|Gr (A3 (α:=Int) (xs:=eo ((e_ (ek nd es) v) &&& (left &&& ~~~(1#64 <<< (v).toNat)))) Af ef C C Bi om oo)<|Gr (Bx (xs:=eo ((e_ (ek nd es) v) &&& (left &&& ~~~(1#64 <<< (v).toNat)))) ef C Bi om oo)<|Ga C ?_)
    have az:=bg om
    have b8:=av.rng (e_ (eo<|e_ (ek nd es) v &&& (left &&& ~~~(1#64 <<< (v).toNat))) (j:Int)) az.1
    have a0:=av.deg (e_ (eo<|e_ (ek nd es) v &&& (left &&& ~~~(1#64 <<< (v).toNat))) (j:Int)) az.1
    have ba:=a0
    have be:=degM_now (rows:=ek nd es) (left:=left) (ws:=(eo<|e_ (ek nd es) v &&& (left &&& ~~~(1#64 <<< (v).toNat)))) (j:=j) om (Dp _)
    have bn:(e_ (eo<|e_ (ek nd es) v &&& (left &&& ~~~(1#64 <<< (v).toNat))) (j:Int))∈eo left:=((mem_minus om).1 az.1).1
    have bv:=aw (e_ (eo<|e_ (ek nd es) v &&& (left &&& ~~~(1#64 <<< (v).toNat))) (j:Int)) bn
    have b7:1<=degB (ek nd es) left (e_ (eo<|e_ (ek nd es) v &&& (left &&& ~~~(1#64 <<< (v).toNat))) (j:Int)):=List.length_pos_of_mem (mem_andB.2 ⟨hS.sym v (e_ (eo<|e_ (ek nd es) v &&& (left &&& ~~~(1#64 <<< (v).toNat))) (j:Int)) om om az.2,ax⟩)
    rw [be] at ba
    refine Ac<|Ap (S11 14 2 3 4 5 6 9 10 90 91 92)<|Ar<|Bs mixed<|Cc (vk 3 aq ar (eo<|(e_ (ek nd es) v) &&& (left &&& ~~~(1#64 <<< (v).toNat)))::vc 3 (.slice ay 1 1) (([v]:List Int))::vk 3 an ak ((ordL done)++([v]:List Int))::vc 3 (.slice aj (replicate ((ek nd es).length) (default:Int)).length ai) (List.set (numL (ek nd es).length done) (v).toNat ((((max kk dd):Nat):Int)))::vc 3 (.slice ah (replicate ((ek nd es).length) (default:Int)).length ae) (Z)::e8 b4 (cells (aa:List (BitVec 64))) 208::vk 207 ad ab (ek nd es)::e8 b1 [e7 nd,va] 38::I) 10<|Dr 0 C (Ai C)<|Dr 1 C (Ai C)<|Dr 2 C (A3 (α:=Int) (xs:=Z) Af ef C C Bi om oo)<|Dr 3 C (Bx (xs:=Z) ef C Bi om oo)<|Dr 4 C (Cg Db ty207 C C om oo)<|Dr 5 C (Fk (xs:=aa) ty207 C (D8 mm) om oo)<|Dr 6 C (Ai C)<|Ds1 7<|Se C (Aj c_ C C<|Bit_ok<|e_ (eo<|(e_ (ek nd es) v) &&& (left &&& ~~~(1#64 <<< (v).toNat))) (j:Int)) ?_
    rintro _ _ ⟨_,_,⟨rfl,rfl⟩,rfl,rfl⟩
    refine ⟨Ax,?_⟩
    refine Dr 8 C (E2 (a:=e_ aa (e_ Z<|e_ (eo<|(e_ (ek nd es) v) &&& (left &&& ~~~(1#64 <<< (v).toNat))) (j:Int))) (b:=bitB (e_ (eo<|(e_ (ek nd es) v) &&& (left &&& ~~~(1#64 <<< (v).toNat))) (j:Int))) C C)<|Dr 9 C (Cg Db ty207 C C om oo)<|Cs kr ?_
    refine Ae 10 C (Eff.setAU (xs:=aa) (i:=e_ Z (e_ (eo<|(e_ (ek nd es) v) &&& (left &&& ~~~(1#64 <<< (v).toNat))) (j:Int))) (n:=(e_ aa<|e_ Z<|e_ (eo<|(e_ (ek nd es) v) &&& (left &&& ~~~(1#64 <<< (v).toNat))) (j:Int)) &&& ~~~(bitB<|e_ (eo<|(e_ (ek nd es) v) &&& (left &&& ~~~(1#64 <<< (v).toNat))) (j:Int))) ty207 C C C om oo am) ?_
    rintro _ _ ⟨rfl,rfl⟩
    refine Ct kr ?_
    refine Ah<|Ap (S11 14 2 3 4 5 6 9 10 90 91 92)<|Ad<|Gm C<|Gm C<|Gr (A3 (α:=Int) (xs:=Z) Af ef C C Bi om oo)<|Gr (Bx (xs:=Z) ef C Bi om oo)<|Gr (Rsu C C)<|Gr (A3 (α:=Int) (xs:=Z) Af ef C C Bi om oo)<|Ge0 (C1 (α:=Int) (xs:=Z) (e:=3) (new:=(e_ Z<|e_ (eo<|(e_ (ek nd es) v) &&& (left &&& ~~~(1#64 <<< (v).toNat))) (j:Int)) - 1) ef C C C om oo am) ?_
    have a3:e_ (List.set Z (e_ (eo<|(e_ (ek nd es) v) &&& (left &&& ~~~(1#64 <<< (v).toNat))) (j:Int)).toNat ((e_ Z<|e_ (eo<|(e_ (ek nd es) v) &&& (left &&& ~~~(1#64 <<< (v).toNat))) (j:Int)) - 1)) (e_ (eo<|e_ (ek nd es) v &&& (left &&& ~~~(1#64 <<< (v).toNat))) (j:Int))=e_ Z (e_ (eo<|e_ (ek nd es) v &&& (left &&& ~~~(1#64 <<< (v).toNat))) (j:Int)) - 1:=by rw [En _ _ _ _ om om om,if_pos rfl]
    refine Ac<|Ap (S11 14 2 3 4 5 6 9 10 90 91 92)<|Bs mixed<|Cc (vk 3 aq ar (eo<|(e_ (ek nd es) v) &&& (left &&& ~~~(1#64 <<< (v).toNat)))::vc 3 (.slice ay 1 1) (([v]:List Int))::vk 3 an ak ((ordL done)++([v]:List Int))::vc 3 (.slice aj (replicate ((ek nd es).length) (default:Int)).length ai) (List.set (numL (ek nd es).length done) (v).toNat ((((max kk dd):Nat):Int)))::vc 3 (.slice ah (replicate ((ek nd es).length) (default:Int)).length ae) (List.set Z (e_ (eo<|(e_ (ek nd es) v) &&& (left &&& ~~~(1#64 <<< (v).toNat))) (j:Int)).toNat ((e_ Z<|e_ (eo<|(e_ (ek nd es) v) &&& (left &&& ~~~(1#64 <<< (v).toNat))) (j:Int)) - 1))::e8 b4 (cells (List.set aa (e_ Z<|e_ (eo<|(e_ (ek nd es) v) &&& (left &&& ~~~(1#64 <<< (v).toNat))) (j:Int)).toNat ((e_ aa<|e_ Z<|e_ (eo<|(e_ (ek nd es) v) &&& (left &&& ~~~(1#64 <<< (v).toNat))) (j:Int)) &&& ~~~(bitB<|e_ (eo<|(e_ (ek nd es) v) &&& (left &&& ~~~(1#64 <<< (v).toNat))) (j:Int))):List (BitVec 64))) 208::vk 207 ad ab (ek nd es)::e8 b1 [e7 nd,va] 38::I) 10<|Dr 0 C (Ai C)<|Dr 1 C (Ai C)<|Dr 2 C (A3 (α:=Int) (xs:=List.set Z (e_ (eo<|(e_ (ek nd es) v) &&& (left &&& ~~~(1#64 <<< (v).toNat))) (j:Int)).toNat ((e_ Z<|e_ (eo<|(e_ (ek nd es) v) &&& (left &&& ~~~(1#64 <<< (v).toNat))) (j:Int)) - 1)) Af ef C C Bi om oo)<|Dr 3 C (Bx (xs:=List.set Z (e_ (eo<|(e_ (ek nd es) v) &&& (left &&& ~~~(1#64 <<< (v).toNat))) (j:Int)).toNat ((e_ Z<|e_ (eo<|(e_ (ek nd es) v) &&& (left &&& ~~~(1#64 <<< (v).toNat))) (j:Int)) - 1)) ef C Bi om oo)<|Dr 4 C (Cg Db ty207 C C om oo)<|Dr 5 C (Fk (xs:=List.set aa (e_ Z<|e_ (eo<|(e_ (ek nd es) v) &&& (left &&& ~~~(1#64 <<< (v).toNat))) (j:Int)).toNat ((e_ aa<|e_ Z<|e_ (eo<|(e_ (ek nd es) v) &&& (left &&& ~~~(1#64 <<< (v).toNat))) (j:Int)) &&& ~~~(bitB<|e_ (eo<|(e_ (ek nd es) v) &&& (left &&& ~~~(1#64 <<< (v).toNat))) (j:Int)))) ty207 C (D8 mm) om oo)<|Dr 6 C (Ai C)<|Ds1 7<|Se C (Aj c_ C C<|Bit_ok<|e_ (eo<|(e_ (ek nd es) v) &&& (left &&& ~~~(1#64 <<< (v).toNat))) (j:Int)) ?_
    rintro _ _ ⟨_,_,⟨rfl,rfl⟩,rfl,rfl⟩
    refine ⟨Ax,?_⟩
    refine Dr 8 C (Ei (a:=e_ (List.set aa (e_ Z<|e_ (eo<|(e_ (ek nd es) v) &&& (left &&& ~~~(1#64 <<< (v).toNat))) (j:Int)).toNat ((e_ aa<|e_ Z<|e_ (eo<|(e_ (ek nd es) v) &&& (left &&& ~~~(1#64 <<< (v).toNat))) (j:Int)) &&& ~~~(bitB<|e_ (eo<|(e_ (ek nd es) v) &&& (left &&& ~~~(1#64 <<< (v).toNat))) (j:Int)))) (e_ (List.set Z (e_ (eo<|(e_ (ek nd es) v) &&& (left &&& ~~~(1#64 <<< (v).toNat))) (j:Int)).toNat ((e_ Z<|e_ (eo<|(e_ (ek nd es) v) &&& (left &&& ~~~(1#64 <<< (v).toNat))) (j:Int)) - 1))<|e_ (eo<|(e_ (ek nd es) v) &&& (left &&& ~~~(1#64 <<< (v).toNat))) (j:Int))) (b:=bitB (e_ (eo<|(e_ (ek nd es) v) &&& (left &&& ~~~(1#64 <<< (v).toNat))) (j:Int))) C C)<|Dr 9 C (Cg Db ty207 C C om oo)<|Cs kr ?_
    refine Ae 10 C (Eff.setAU (xs:=List.set aa (e_ Z<|e_ (eo<|(e_ (ek nd es) v) &&& (left &&& ~~~(1#64 <<< (v).toNat))) (j:Int)).toNat ((e_ aa<|e_ Z<|e_ (eo<|(e_ (ek nd es) v) &&& (left &&& ~~~(1#64 <<< (v).toNat))) (j:Int)) &&& ~~~(bitB<|e_ (eo<|(e_ (ek nd es) v) &&& (left &&& ~~~(1#64 <<< (v).toNat))) (j:Int)))) (i:=e_ (List.set Z (e_ (eo<|(e_ (ek nd es) v) &&& (left &&& ~~~(1#64 <<< (v).toNat))) (j:Int)).toNat ((e_ Z<|e_ (eo<|(e_ (ek nd es) v) &&& (left &&& ~~~(1#64 <<< (v).toNat))) (j:Int)) - 1)) (e_ (eo<|(e_ (ek nd es) v) &&& (left &&& ~~~(1#64 <<< (v).toNat))) (j:Int))) (n:=(e_ (List.set aa (e_ Z<|e_ (eo<|(e_ (ek nd es) v) &&& (left &&& ~~~(1#64 <<< (v).toNat))) (j:Int)).toNat ((e_ aa<|e_ Z<|e_ (eo<|(e_ (ek nd es) v) &&& (left &&& ~~~(1#64 <<< (v).toNat))) (j:Int)) &&& ~~~(bitB<|e_ (eo<|(e_ (ek nd es) v) &&& (left &&& ~~~(1#64 <<< (v).toNat))) (j:Int))))<|e_ (List.set Z (e_ (eo<|(e_ (ek nd es) v) &&& (left &&& ~~~(1#64 <<< (v).toNat))) (j:Int)).toNat ((e_ Z<|e_ (eo<|(e_ (ek nd es) v) &&& (left &&& ~~~(1#64 <<< (v).toNat))) (j:Int)) - 1))<|e_ (eo<|(e_ (ek nd es) v) &&& (left &&& ~~~(1#64 <<< (v).toNat))) (j:Int)) ||| (bitB<|e_ (eo<|(e_ (ek nd es) v) &&& (left &&& ~~~(1#64 <<< (v).toNat))) (j:Int))) ty207 C C C om oo am) ?_
    rintro _ _ ⟨rfl,rfl⟩
    refine Ct kr ?_
    exact Am<|Ah<|Ap (S10 2 3 4 5 6 9 10 90 91 92)<|Ay<|Gr (Rad C C)<|Gm C<|Bj<|Cb ((j+1),(List.set Z (e_ (eo<|(e_ (ek nd es) v) &&& (left &&& ~~~(1#64 <<< (v).toNat))) (j:Int)).toNat ((e_ Z<|e_ (eo<|(e_ (ek nd es) v) &&& (left &&& ~~~(1#64 <<< (v).toNat))) (j:Int)) - 1)),(List.set (List.set aa (e_ Z<|e_ (eo<|(e_ (ek nd es) v) &&& (left &&& ~~~(1#64 <<< (v).toNat))) (j:Int)).toNat ((e_ aa<|e_ Z<|e_ (eo<|(e_ (ek nd es) v) &&& (left &&& ~~~(1#64 <<< (v).toNat))) (j:Int)) &&& ~~~(bitB<|e_ (eo<|(e_ (ek nd es) v) &&& (left &&& ~~~(1#64 <<< (v).toNat))) (j:Int)))) (e_ (List.set Z (e_ (eo<|(e_ (ek nd es) v) &&& (left &&& ~~~(1#64 <<< (v).toNat))) (j:Int)).toNat ((e_ Z<|e_ (eo<|(e_ (ek nd es) v) &&& (left &&& ~~~(1#64 <<< (v).toNat))) (j:Int)) - 1))<|e_ (eo<|(e_ (ek nd es) v) &&& (left &&& ~~~(1#64 <<< (v).toNat))) (j:Int)).toNat ((e_ (List.set aa (e_ Z<|e_ (eo<|(e_ (ek nd es) v) &&& (left &&& ~~~(1#64 <<< (v).toNat))) (j:Int)).toNat ((e_ aa<|e_ Z<|e_ (eo<|(e_ (ek nd es) v) &&& (left &&& ~~~(1#64 <<< (v).toNat))) (j:Int)) &&& ~~~(bitB<|e_ (eo<|(e_ (ek nd es) v) &&& (left &&& ~~~(1#64 <<< (v).toNat))) (j:Int))))<|e_ (List.set Z (e_ (eo<|(e_ (ek nd es) v) &&& (left &&& ~~~(1#64 <<< (v).toNat))) (j:Int)).toNat ((e_ Z<|e_ (eo<|(e_ (ek nd es) v) &&& (left &&& ~~~(1#64 <<< (v).toNat))) (j:Int)) - 1))<|e_ (eo<|(e_ (ek nd es) v) &&& (left &&& ~~~(1#64 <<< (v).toNat))) (j:Int)) ||| (bitB<|e_ (eo<|(e_ (ek nd es) v) &&& (left &&& ~~~(1#64 <<< (v).toNat))) (j:Int)))))<|by dsimp only;exact ⟨om,(by have hN:=av.lower om (w:=(e_ (eo<|e_ (ek nd es) v &&& (left &&& ~~~(1#64 <<< (v).toNat))) (j:Int))) (e:=e_ Z (e_ (eo<|e_ (ek nd es) v &&& (left &&& ~~~(1#64 <<< (v).toNat))) (j:Int))) az.1 a0.symm om om (dg':=degM (ek nd es) left (eo<|e_ (ek nd es) v &&& (left &&& ~~~(1#64 <<< (v).toNat))) (j+1)) (λu _=>degM_succ om (Dp _) u);rw [a3,bit_sh om om];exact hN)⟩
   exact Bt<|Aq<|Aq<|Bb<|Ah<|Bt<|V.block_miss C<|Aq<|Aq<|V.block_miss C<|Bb<|Cb ((done++[(v,max kk dd)]),((left &&& ~~~(1#64 <<< (v).toNat))),(max kk dd),(Z),(aa),(an),(ak)) (by dsimp only;exact ⟨(core_step hc a5 om),(av.congr (λu=>Iff.rfl) (λu hu=>by have hr:=av.rng u hu;exact (degM_all hS om om ax hr.1 hr.2 hu om).symm)),(by have:=listB_minus ax;simp only [List.length_append,List.length_cons,List.length_nil];omega),om⟩) (hlt:=by (try dsimp only);exact (by have:=listB_minus ax;omega)) (hL:=(Aa (C8 C<|by first|rfl|(rw [ordL_snoc])|simp)<|cx4<|Aa (C8 C<|by first|rfl|(rw [ordL_snoc])|simp)<|Aa C Bp)) (hI:=by (try dsimp only);exact (by rw [ordL_snoc,numL_snoc];exact Bl))
  exact (au.some (Classical.not_not.1<|λh=>h asm) aw<|λc h1 h2=>hz c h1 om).elim
 refine Bt<|Aq<|Aq<|Bb<|Ah<|Ad<|Gm C<|Gm C<|Ga C<|Ga C<|Ac<|Az<|V.jump_ret ?_
 have bm:left=0#64:=Classical.not_not.1 a6
 have bq:done=coreR0 nd es:=by rw [←hc,bm,coreR_zero,List.append_nil]
 subst bq
 have bc:=coreL_len nd es
 exact C2 C C C (vk 3 ao co (coreO nd es)::vk 3 aj ai (coreL nd es)::I) (by unfold vk;rw [bc];simp only [List.length_replicate];exact Bl) ⟨ao,co,aj,ai,by rw [bc];simp only [List.length_replicate];rfl,rfl⟩
theorem CNumbers_ok{κ:Ctx}{I:List Item}(hl:Sl κ I va es)(hT:TabRd κ I 0 tzCells):eu prog κ 83 [.agg #[e7 nd,va]] I (λr J=>∃a c,r = .tuple #[.slice a (coreN nd es).length c,e7 (checkG nd es)]/\J=vk 3 a c (coreN nd es)::I):=by
 refine Ce1 Tryz.func83 C C ?_
 refine Ad<|Ge1 (Bd (cs:=[_,_]) C C C) λb1=>Ga C<|Ga C<|Ac<|Ar<|Ad<|Gl2 ty38 ?_
 refine Gc0 (Aj c_ C C<|CheckGen_ok<|A8 hl) ?_
 refine Ga C<|Ac<|Ad<|Gm C<|Gr (Be C C)<|Ac<|A7 C (λc10=>?_)<|λc10=>?_
 ·refine Ad (Gm C<|Ga C<|Ga C<|Ac<|Az<|Ao ?_)
  have Z:(coreN nd es)=[]:=if_pos c10
  exact C2 C C C (vk 3 none 0 (coreN nd es)::I) (by unfold vk;rw [Z];exact Co (show Fit κ _ I from Ax)<|Cf (α:=Int) _ _) ⟨none,0,by rw [Z];rfl,rfl⟩
 refine Aw<|Ah<|Ad<|Gl2 ty38 ?_
 refine G.e (Aj c_ C C<|CPeel_ok (nd:=nd) (A8 hl) (checkG_ok.1<|Classical.not_not.1 c10)<|Bn hT Ax) ?_
 rintro _ _ ⟨_,_,⟨ad,ab,M,aa,rfl,rfl⟩,rfl,rfl⟩
 refine Gm C<|Gr (Ak C C)<|Gr (Ak C C)<|Ga C<|Ga C<|Ac<|Ap (S1 6)<|Ad<|Gm C<|Ga C<|Ga C<|Ac<|Az ?_
 have Z:(coreN nd es)=_:=if_neg c10
 have hz:checkG nd es=0:=Classical.not_not.1 c10
 exact C2 C C C (vk 3 M aa (coreN nd es)::I) (by unfold vk;rw [Z];exact Bg) ⟨M,aa,by rw [Z,hz]<;>rfl,rfl⟩
theorem coreN_len(nd:Int)(es:List Pt):(coreN nd es).length<=64:=by
 unfold coreN
 split
 ·simp
 rw [coreL_len,rowsB_len];omega
end Go.Sl
namespace Go.Sl
end Go.Sl
namespace Go.Sl
open Go.Proofs
set_option maxRecDepth 4000
variable{i kd n nd t:Int}{es:List Ev}{b:Nat}{lv:Value}{ls:List Int}
theorem edges_le{es:List Pt}(Z:GrOk nd es):es.length<=2016:=by
 have hs:∀e∈es,e∈(List.range 64).flatMap fun (v:Nat)=>(List.range v).map fun (u:Nat)=>(⟨(u:Int),(v:Int)⟩:Pt):=λe M=>by
  have h:=Z.edge e M
  have hr:=Z.rng
  refine List.mem_flatMap.2 ⟨e.v.toNat,List.mem_range.2 om,List.mem_map.2 ⟨e.u.toNat,List.mem_range.2 om,?_⟩⟩
  rw [Dj]
  exact ⟨by show ((e.u.toNat:Nat):Int)=e.u;omega,by show ((e.v.toNat:Nat):Int)=e.v;omega⟩
 have hl:=List.Nodup.length_le_of_subset (Fe Z.asc) hs
 have e:((List.range 64).flatMap fun (v:Nat)=>(List.range v).map fun (u:Nat)=>(⟨(u:Int),(v:Int)⟩:Pt)).length=2016:=by
  rw [List.length_flatMap]
  simp only [List.length_map,List.length_range]
  decide+kernel
 omega
variable {κ:Ctx}{I:List Item}
theorem evmod{s x N:Int}(h1:0<=s)(M:s<N)(Z:0<=x)(h4:x<N - 1):(0<=Int.tmod (s+1+x) N/\Int.tmod (s+1+x) N<N)/\s≠Int.tmod (s+1+x) N:=by
 rw [Int.tmod_eq_emod_of_nonneg om]
 by_cases h:s+1+x<N
 ·rw [Int.emod_eq_of_lt om h];omega
 rw [show s+1+x=(s+1+x - N)+N by omega,Int.add_emod_right,Int.emod_eq_of_lt om om];omega
theorem fit_mk{tm u v w lb sg:Int}(hk:1<=kd/\kd<=3)(ht:0<=tm/\tm<=1048576)(hu:0<=u/\u<n)(hn:n<=64)(hv:kd=3->v=0)(Z:kd≠3->(0<=v/\v<n)/\u≠v)(hr:kd=1->rightW w lb sg)(M:kd≠1->w=0/\lb=0/\sg=0):FitOk n ⟨kd,tm,u,v,w,lb,sg⟩:=
 ⟨hk,ht,⟨by show 0<=u/\u<64;omega,hv,λh=>by have:=Z h;show (0<=v/\v<64)/\u≠v;omega⟩,hr,by
  show u<n/\v<n
  by_cases h:kd=3
  ·have:=hv h;omega
  have:=Z h;omega,M⟩
theorem streamS_ok(M:∀j:Nat,j<es.length->FitOk nd (e_ es j))(Z:∀j:Nat,j<es.length->lastT es j<=(e_ es j).tm):∀m k:Nat,k+m=es.length->streamS nd (lastT es k) (es.drop k)=0
 |0,k,h=>streamS_end om
 |m+1,k,h=>by
  rw [streamS_step om (fitE_ok.2<|M k om) (by have:=Z k om;omega)]
  exact streamS_ok M Z m (k+1) om
theorem MkEvent_base{b:Nat}{lv:Value}{ls:List Int}{i:Int}{n t:Int}(hl:∀q,Sl κ (deck b lv q::I) lv ls)(h0:0<=i)(hn:2<=n/\n<=64)(ht:0<=t/\t<=1000000):eu prog κ 34 [.pointer (some ⟨b,0,none⟩),e7 n,e7 t] (e8 b [lv,e7 i] 85::I) (λr J=>∃y:Ev×Int,((r = .agg #[e7 y.1.kd,e7 y.1.tm,e7 y.1.u,e7 y.1.v,e7 y.1.w,e7 y.1.lb,e7 y.1.sg]/\FitOk n y.1/\y.1.tm=t)/\0<=y.2)/\J=[]++deck b lv y.2::I):=by
 refine Ce3 Tryz.func34 C C ?_
 refine Ad (Ge1 (A4 ty54 C) λb1=>Ac (Ad (Gm C (Gm C (Gm C (G.e (Aj c_ C C (Next_ok (by repeat (first|exact AtF.head _ _|apply AtF.tail)) (Bu (hl _) Ax) om om)) ?_))))))
 rintro _ _ ⟨_,_,⟨x2,i3,rfl,hx2,hi3,rfl⟩,rfl,rfl⟩
 show G prog κ _ _ _ _ ([(12,e7 x2),(11,e7 n),(10,.pointer (some ⟨b,0,none⟩)),(9,e7 t),(6,.pointer (some ⟨b1,0,none⟩)),(0,.pointer (some ⟨b,0,none⟩)),(1,e7 n),(2,e7 t)]:Env) (e8 b1 [e7 0,e7 0,e7 0,e7 0,e7 0,e7 0,e7 0] 54::e8 b [lv,e7 i3] 85::I)
 refine Gr (Bq (cells:=[_,_,_,_,_,_,_]) ty54 C9 pl54 C C) (Ge1 (A4 ty54 C) λb4=>Ge0 (E8 ty54) ?_)
 refine Ac (W.cut (σ:=Int×Int) (λs=>([(0,.pointer (some ⟨b,0,none⟩)),(2,e7 t),(6,.pointer (some ⟨b1,0,none⟩)),(7,.pointer (some ⟨b4,0,none⟩))]:Env)) (λs=>e8 b4 [e7 1,e7 t,e7 x2,e7 (s.1),e7 0,e7 0,e7 0] 54::e8 b1 [e7 0,e7 0,e7 0,e7 0,e7 0,e7 0,e7 0] 54::e8 b [lv,e7 (s.2)] 85::I) (λs=>((0<=s.1/\s.1<n)/\x2≠s.1)/\(0<=s.2)) ?_ ?_)
 ·refine Bs mixed (Cc (e8 b1 [e7 0,e7 0,e7 0,e7 0,e7 0,e7 0,e7 0] 54::I) 12 (Dr 0 C (Ab fld54_2 C) (Dr 3 C (Ai C) (Dr 4 C (Ai C) (Dr 5 C (Rsu C C) (Dr 8 C (Ai C) (Do (rs:=[1,6]) kr C C (Eu ?_ (D6 ?_)))))))))
  ·refine Sr C (A0 ef) Bg ?_
   refine Dr 2 C (Rad C C) (Ds1 6 (Se C (Aj c_ C C (Next_ok (by repeat (first|exact AtF.head _ _|apply AtF.tail)) (Bu (hl _) Ax) om om)) ?_))
   rintro _ _ ⟨_,_,⟨x5,i6,rfl,hx5,hi6,rfl⟩,rfl,rfl⟩
   refine ⟨Bg,?_⟩
   show D prog κ _ _ _ _ _ _ _ ([(20,e7 x5),(16,e7 (x2+1)),(15,e7 x2),(22,e7 n),(19,e7 (n - 1)),(18,e7 n),(17,.pointer (some ⟨b,0,none⟩)),(14,.pointer (some ⟨b4,2,none⟩)),(7,.pointer (some ⟨b4,0,none⟩)),(13,.agg #[e7 1,e7 t,e7 x2,e7 0,e7 0,e7 0,e7 0]),(12,e7 x2),(11,e7 n),(10,.pointer (some ⟨b,0,none⟩)),(9,e7 t),(6,.pointer (some ⟨b1,0,none⟩)),(0,.pointer (some ⟨b,0,none⟩)),(1,e7 n),(2,e7 t)]:Env) (e8 b4 [e7 1,e7 t,e7 x2,e7 0,e7 0,e7 0,e7 0] 54::e8 b1 [e7 0,e7 0,e7 0,e7 0,e7 0,e7 0,e7 0] 54::e8 b [lv,e7 i6] 85::I)
   refine Dr 7 C (Rad C C) (Dr 9 C (Runs.rem C C om) (Dr 10 C (Ab fld54_3 C) (Ds1 11 (Se0 C (Et ef) ?_))))
   refine Dz ?_
   have htm:=evmod (s:=x2) (x:=x5) (N:=n) om om om om
   exact Fa ((Int.tmod ((x2+1)+x5) n),(i6)) (by dsimp only;exact ⟨htm,om⟩)
  refine Se C (Aj c_ C C (Next_ok (by repeat (first|exact AtF.head _ _|apply AtF.tail)) (Bu (hl _) Ax) om om)) ?_
  rintro _ _ ⟨_,_,⟨x7,i8,rfl,hx7,hi8,rfl⟩,rfl,rfl⟩
  refine ⟨Bg,?_⟩
  show D prog κ _ _ _ _ _ _ _ ([(20,e7 x7),(22,e7 n),(19,e7 (n - 1)),(18,e7 n),(17,.pointer (some ⟨b,0,none⟩)),(14,.pointer (some ⟨b4,2,none⟩)),(7,.pointer (some ⟨b4,0,none⟩)),(13,.agg #[e7 1,e7 t,e7 x2,e7 0,e7 0,e7 0,e7 0]),(12,e7 x2),(11,e7 n),(10,.pointer (some ⟨b,0,none⟩)),(9,e7 t),(6,.pointer (some ⟨b1,0,none⟩)),(0,.pointer (some ⟨b,0,none⟩)),(1,e7 n),(2,e7 t)]:Env) (e8 b4 [e7 1,e7 t,e7 x2,e7 0,e7 0,e7 0,e7 0] 54::e8 b1 [e7 0,e7 0,e7 0,e7 0,e7 0,e7 0,e7 0] 54::e8 b [lv,e7 i8] 85::I)
  refine Ds1 1 (Sr C (A0 ef) Bg ?_)
  refine Dr 2 C (Rad C C) (Dr 7 C (Rad C C) (Dr 9 C (Runs.rem C C om) (Dr 10 C (Ab fld54_3 C) (Ds1 11 (Se0 C (Et ef) ?_)))))
  refine Dz ?_
  have htm:=evmod (s:=x2) (x:=x7) (N:=n) om om om om
  exact Fa ((Int.tmod ((x2+1)+x7) n),(i8)) (by dsimp only;exact ⟨htm,om⟩)
 rintro ⟨vv,i9⟩ hp
 obtain ⟨hvv,hi9⟩:((0<=vv/\vv<n)/\x2≠vv)/\(0<=i9):=hp
 show W prog κ 56 _ _ ([(0,.pointer (some ⟨b,0,none⟩)),(2,e7 t),(6,.pointer (some ⟨b1,0,none⟩)),(7,.pointer (some ⟨b4,0,none⟩))]:Env) (e8 b4 [e7 1,e7 t,e7 x2,e7 vv,e7 0,e7 0,e7 0] 54::e8 b1 [e7 0,e7 0,e7 0,e7 0,e7 0,e7 0,e7 0] 54::e8 b [lv,e7 i9] 85::I)
 refine Ar (Ad (Gm C (G.e (Aj c_ C C (Next_ok (by repeat (first|exact AtF.head _ _|apply AtF.tail)) (Bu (hl _) Ax) om om)) ?_)))
 rintro _ _ ⟨_,_,⟨x9,i10,rfl,hx9,hi10,rfl⟩,rfl,rfl⟩
 show G prog κ _ _ _ _ ([(26,e7 x9),(25,.pointer (some ⟨b,0,none⟩)),(0,.pointer (some ⟨b,0,none⟩)),(2,e7 t),(6,.pointer (some ⟨b1,0,none⟩)),(7,.pointer (some ⟨b4,0,none⟩))]:Env) (e8 b4 [e7 1,e7 t,e7 x2,e7 vv,e7 0,e7 0,e7 0] 54::e8 b1 [e7 0,e7 0,e7 0,e7 0,e7 0,e7 0,e7 0] 54::e8 b [lv,e7 i10] 85::I)
 refine Ga C (Ac (A5 (Ad (Gm C (Gr (Cv C C) (Ga C (Ac (A7 C (λc27=>?_) (λc27=>?_)))))))))
 ·refine Ad (Gm C (Gf fld54_2 C (Gl ef ?_)))
  refine Gr (Bq (cells:=[_,_,_,_,_,_,_]) ty54 C9 pl54 C C) (Ge0 (E8 ty54) ?_)
  exact Ac (Ap (S1 6 C) (Az (Ba (Ao (Ez C ty54 C mm C (e8 b [lv,e7 i10] 85::I) Bg ⟨(⟨3,t,x2,0,0,0,0⟩,i10),⟨⟨rfl,fit_mk om om om om (λh=>by omega) (λh=>by omega) (λh=>by unfold rightW;omega) (λh=>by omega),rfl⟩,by show 0<=i10;omega⟩,rfl⟩)))))
 refine Ad (Gm C (Gr (Cv C C) (Ga C (Ac (A7 C (λc34=>?_) (λc34=>?_))))))
 ·refine Ad (Gm C (Gf fld54_2 C (Gl ef ?_)))
  refine Gf fld54_3 C (Gl ef ?_)
  refine Gr (Bq (cells:=[_,_,_,_,_,_,_]) ty54 C9 pl54 C C) (Ge0 (E8 ty54) ?_)
  exact Ac (Ap (S1 6 C) (Az (Ba (Ao (Ez C ty54 C mm C (e8 b [lv,e7 i10] 85::I) Bg ⟨(⟨2,t,x2,vv,0,0,0⟩,i10),⟨⟨rfl,fit_mk om om om om (λh=>by omega) (λh=>by omega) (λh=>by unfold rightW;omega) (λh=>by omega),rfl⟩,by show 0<=i10;omega⟩,rfl⟩)))))
 refine Aw (Am (Ah (Ad (Gm C (G.e (Aj c_ C C (Next_ok (by repeat (first|exact AtF.head _ _|apply AtF.tail)) (Bu (hl _) Ax) om om)) ?_)))))
 rintro _ _ ⟨_,_,⟨x11,i12,rfl,hx11,hi12,rfl⟩,rfl,rfl⟩
 show G prog κ _ _ _ _ ([(44,e7 x11),(43,.pointer (some ⟨b,0,none⟩)),(34,.bool (decide (5<=x9))),(36,.bool (decide (5<=x9))),(35,e7 x9),(27,.bool (decide (8<=x9))),(29,.bool (decide (8<=x9))),(28,e7 x9),(8,e7 x9),(26,e7 x9),(25,.pointer (some ⟨b,0,none⟩)),(0,.pointer (some ⟨b,0,none⟩)),(2,e7 t),(6,.pointer (some ⟨b1,0,none⟩)),(7,.pointer (some ⟨b4,0,none⟩))]:Env) (e8 b4 [e7 1,e7 t,e7 x2,e7 vv,e7 0,e7 0,e7 0] 54::e8 b1 [e7 0,e7 0,e7 0,e7 0,e7 0,e7 0,e7 0] 54::e8 b [lv,e7 i12] 85::I)
 refine Gr (Rad C C) (Gm C (G.e (Aj c_ C C (Next_ok (by repeat (first|exact AtF.head _ _|apply AtF.tail)) (Bu (hl _) Ax) om om)) ?_))
 rintro _ _ ⟨_,_,⟨x13,i14,rfl,hx13,hi14,rfl⟩,rfl,rfl⟩
 show G prog κ _ _ _ _ ([(47,e7 x13),(46,.pointer (some ⟨b,0,none⟩)),(45,e7 (1+x11)),(44,e7 x11),(43,.pointer (some ⟨b,0,none⟩)),(34,.bool (decide (5<=x9))),(36,.bool (decide (5<=x9))),(35,e7 x9),(27,.bool (decide (8<=x9))),(29,.bool (decide (8<=x9))),(28,e7 x9),(8,e7 x9),(26,e7 x9),(25,.pointer (some ⟨b,0,none⟩)),(0,.pointer (some ⟨b,0,none⟩)),(2,e7 t),(6,.pointer (some ⟨b1,0,none⟩)),(7,.pointer (some ⟨b4,0,none⟩))]:Env) (e8 b4 [e7 1,e7 t,e7 x2,e7 vv,e7 0,e7 0,e7 0] 54::e8 b1 [e7 0,e7 0,e7 0,e7 0,e7 0,e7 0,e7 0] 54::e8 b [lv,e7 i14] 85::I)
 refine Gm C (G.e (Aj c_ C C (Next_ok (by repeat (first|exact AtF.head _ _|apply AtF.tail)) (Bu (hl _) Ax) om om)) ?_)
 rintro _ _ ⟨_,_,⟨x15,i16,rfl,hx15,hi16,rfl⟩,rfl,rfl⟩
 show G prog κ _ _ _ _ ([(49,e7 x15),(48,.pointer (some ⟨b,0,none⟩)),(47,e7 x13),(46,.pointer (some ⟨b,0,none⟩)),(45,e7 (1+x11)),(44,e7 x11),(43,.pointer (some ⟨b,0,none⟩)),(34,.bool (decide (5<=x9))),(36,.bool (decide (5<=x9))),(35,e7 x9),(27,.bool (decide (8<=x9))),(29,.bool (decide (8<=x9))),(28,e7 x9),(8,e7 x9),(26,e7 x9),(25,.pointer (some ⟨b,0,none⟩)),(0,.pointer (some ⟨b,0,none⟩)),(2,e7 t),(6,.pointer (some ⟨b1,0,none⟩)),(7,.pointer (some ⟨b4,0,none⟩))]:Env) (e8 b4 [e7 1,e7 t,e7 x2,e7 vv,e7 0,e7 0,e7 0] 54::e8 b1 [e7 0,e7 0,e7 0,e7 0,e7 0,e7 0,e7 0] 54::e8 b [lv,e7 i16] 85::I)
 refine Gr (E1 C C (by unfold InR;omega)) (Gr (Rsu C C) (Gf fld54_4 C (Ge0 (Et ef) ?_)))
 refine Gf fld54_5 C (Ge0 (Et ef) ?_)
 refine Gf fld54_6 C (Ge0 (Et ef) ?_)
 refine Ac (Ap (S2 6 7 C C) (Ad (Gl7 ty54 ?_)))
 refine Ge0 (E8 ty54) ?_
 exact Ac (Az (Ez C ty54 C mm C (e8 b [lv,e7 i16] 85::I) Bg ⟨(⟨1,t,x2,vv,1+x11,x13,1 - (2*x15)⟩,i16),⟨⟨rfl,fit_mk om om om om (λh=>by omega) (λh=>by omega) (λh=>by unfold rightW;omega) (λh=>by omega),rfl⟩,by show 0<=i16;omega⟩,rfl⟩))
theorem MkEvent_at{F:Item->List Item}(M:AtF I (deck b lv i) F)(hl:∀q,Sl κ (F (deck b lv q)) lv ls)(h0:0<=i)(hn:2<=n/\n<=64)(ht:0<=t/\t<=1000000):eu prog κ 34 [(pt b),e7 n,e7 t] I λr J=>∃y:Ev×Int,((r = .agg (ez y.1).toArray/\FitOk n y.1/\y.1.tm=t)/\0<=y.2)/\J=[]++F (deck b lv y.2):=
 eu.at (Post:=λr (y:Ev×Int)=>(r = .agg (ez y.1).toArray/\FitOk n y.1/\y.1.tm=t)/\0<=y.2) (Z:=λy:Ev×Int=>[]) (X:=λy:Ev×Int=>deck b lv y.2) M λJ _ hF=>MkEvent_base (λq=>(hl q).fit (hF _)) h0  hn ht
theorem slideE_zeroH{wd mo:Int}(h:HistOk nd kd wd mo es):slideE nd kd wd mo es=0:=by
 unfold slideE
 rw [if_neg (by simp [h.win])]
 have M:=h.st.nodes
 have Z:=h.st.len
 unfold streamE
 rw [if_neg om,if_neg om]
 exact streamS_ok h.st.fit h.st.asc es.length 0 om
end Go.Sl
namespace Go.Sl
open Go.RowKit (Below)
end Go.Sl
namespace Go.Sl
open Go.Proofs
set_option maxRecDepth 4000
end Go.Sl
namespace Go.Sl
theorem gone_mem{kd wd mo nw:Int}{xs:List Lk}{e:Ev}(Z:e∈goneL kd wd mo nw xs):e.kd=2/\e.tm=nw:=by
 unfold goneL at Z
 obtain ⟨z,M,rfl⟩:=List.mem_map.1 Z
 exact ⟨rfl,rfl⟩
theorem place_spec(l:List Ev)(x:Ev):∀n,n<=l.length->placeG evC l x n<=n/\(∀i:Nat,placeG evC l x n<=i->i<n->x.tm<(e_ l i).tm)/\(0<placeG evC l x n->(e_ l ((placeG evC l x n - 1:Nat):Int)).tm<=x.tm)
 |0,_=>⟨Nat.le_refl _,λi M Z=>by omega,λh=>absurd h<|Nat.lt_irrefl 0⟩
 |n+1,hn=>by
  unfold placeG
  split
  ·rename_i h
   obtain ⟨M,Z,h3⟩:=place_spec l x n om
   refine ⟨by omega,λi hi hlt=>?_,h3⟩
   by_cases e:i=n
   ·subst e;exact evC_neg.1 h
   exact Z i hi om
  rename_i h
  refine ⟨Nat.le_refl _,λi M Z=>by omega,λ_=>?_⟩
  have:¬x.tm<(e_ l n).tm:=λhh=>h (evC_neg.2 hh)
  show (e_ l n).tm<=x.tm
  omega
theorem insert_asc{l:List Ev}(h:l.Pairwise λa b=>a.tm<=b.tm)(x:Ev):(insertG evC l x).Pairwise λa b=>a.tm<=b.tm:=by
 obtain ⟨h1,h2,h3⟩:=place_spec l x l.length (Nat.le_refl _)
 unfold insertG insG
 generalize placeG evC l x l.length=p at h1 h2 h3
 have hg:=List.pairwise_iff_getElem.1 h
 have ha:∀a∈l.take p,a.tm<=x.tm:=λa ha=>by
  obtain ⟨i,hi,rfl⟩:=List.getElem_of_mem ha
  rw [List.length_take] at hi
  rw [List.getElem_take]
  have h4:=h3 om
  rw [C7 l (p - 1) om] at h4
  by_cases e:i=p - 1
  ·subst e;exact h4
  have:=hg i (p - 1) om om om;omega
 have hb:∀b∈l.drop p,x.tm<=b.tm:=λb hb=>by
  obtain ⟨i,hi,rfl⟩:=List.getElem_of_mem hb
  rw [List.length_drop] at hi
  rw [List.getElem_drop]
  have h4:=h2 (p+i) om om
  rw [C7 l (p+i) om] at h4
  omega
 refine List.pairwise_append.2 ⟨h.sublist<|List.take_sublist _ _,List.pairwise_cons.2 ⟨hb,h.sublist<|List.drop_sublist _ _⟩,λa M b Z=>?_⟩
 rcases List.mem_cons.1 Z with rfl|Z
 ·exact ha a M
 have h5:=ha a M;have h6:=hb b Z;omega
end Go.Sl
namespace Go.Sl
variable {P:Program}{κ:Ctx}{N:Frm}{L:Env}{I:List Item}
end Go.Sl
namespace Go.Sl
variable {P:Program}{κ:Ctx}{N:Frm}{L:Env}{I:List Item}
end Go.Sl
namespace Go.Sl
open Go.Proofs
set_option maxRecDepth 4000
theorem mem_atN{zs:List Int}{x:Int}(h:x∈zs):∃q:Nat,q<zs.length/\x=e_ zs q:=by
 obtain ⟨q,Z,rfl⟩:=List.getElem_of_mem h
 exact ⟨q,Z,(C7 zs q Z).symm⟩
end Go.Sl
namespace Go.Sl
open Go.RowKit (Below)
variable{T et r:Nat}{w:World}{x y:Operand}
section
variable {α:Type}[Enc α][DecidableEq α]
def entF:Nat->List α->List MapEntry
 |_,[]=>[]
 |i,x::xs=>{key:= .agg (Enc.enc x).toArray,val:=e7 (i:Nat),born:=i}::entF (i+1) xs
theorem entF_snoc:∀(xs:List α) (i:Nat) (x:α),entF i (xs++[x])=entF i xs++[{key:= .agg (Enc.enc x).toArray,val:=e7 ((i+xs.length:Nat):Int),born:=i+xs.length}]
 |[],i,x=>by simp [entF]
 |y::ys,i,x=>by
  have h:=entF_snoc ys (i+1) x
  rw [show i+1+ys.length=i+(ys.length+1) by omega] at h
  show _::entF (i+1) (ys++[x])=_
  rw [h];rfl
def KeyT(P:Program)(T:TypeId)(α:Type)[Enc α]:Prop:=∀(x:α) (e:Bool) (w:World),(Instr.checkKey e 10000 T (.agg (Enc.enc x).toArray)).run P w = .ok () w
theorem run_asking{P:Program}{T:TypeId}{w:World}(h:EqT P T α)(k:α):∀(xs:List α) (i j:Nat),(Instr.findAsking T (.agg (Enc.enc k).toArray) (entF i xs) j).run P w = .ok (if k∈xs then some (j+xs.idxOf k,e7 ((i+xs.idxOf k:Nat):Int)) else none) w
 |[],i,j=>by simp [entF,Instr.findAsking]
 |x::xs,i,j=>by
  have M:=run_asking (w:=w) h k xs (i+1) (j+1)
  have Z:(Op.equal T (.agg (Enc.enc k).toArray)<|.agg (Enc.enc x).toArray).run P w = .ok (decide<|k=x) w:=h.1 k x w
  unfold entF Instr.findAsking
  simp only [Sem.run_bind,Z,Result.andThen]
  by_cases hx:k=x
  ·subst hx
   simp
  rw [decide_eq_false hx]
  simp only [Bool.false_eq_true,if_false]
  rw [M]
  have hb:(x==k)=false:=by simpa using λe=>hx e.symm
  by_cases hm:k∈xs
  ·rw [if_pos hm,if_pos<|List.mem_cons_of_mem _ hm,List.idxOf_cons,hb]
   simp only [cond_false]
   rw [show j+1+List.idxOf k xs=j+(List.idxOf k xs+1) by omega,show i+1+List.idxOf k xs=i+(List.idxOf k xs+1) by omega]
  rw [if_neg hm,if_neg<|by simp [hx,hm]]
theorem run_findStruct{P:Program}{T:TypeId}{Z:Array Field}(M:P.underlying T=some (.struct Z))(h:EqT P T α)(k:α)(xs:List α):(Instr.findKey T (.agg (Enc.enc k).toArray) (entF 0 xs)).run P w = .ok (if k∈xs then some (xs.idxOf k,e7 ((xs.idxOf k:Nat):Int)) else none) w:=by
 unfold Instr.findKey
 simp only [Sem.run_bind,run_underlying M,Result.andThen]
 cases xs with
 |nil=>simp [entF,Instr.findNow]
 |cons x xs=>
  have e:Instr.findNow (.struct Z) (.agg (Enc.enc k).toArray) (entF 0<|x::xs) 0=none:=by
   simp [entF,Instr.findNow,Instr.sameNow]
  rw [e]
  have:=run_asking (w:=w) h k (x::xs) 0 0
  simp only [Nat.zero_add] at this
  exact this
def mpE(r:Nat)(xs:List α):Item:=mp r (entF 0 xs) xs.length
section
variable {P:Program}{κ:Ctx}{N:Frm}{Q:Exit->Act->World->Prop}{L:Env}{I J:List Item}{ops:Array Oper}{rest:List Oper}
variable {d:Option Tmp}{ty:TypeId}{ps:String}{af:Array Edge}{gd:Option (Nat×Bool)}
theorem Eff.makeMapE{dd:Nat}(Z:Nat.blt dd N.n=true) :
  Eff P κ N Q ⟨some dd,.makeMap T none,ty,ps,af,gd⟩ L I λL' I'=>∃r,L'=(dd,.map<|some r)::L/\I'=mpE (α:=α) r []::I:=Eff.makeMap Z
theorem Eff.updateE{z:Operand}{kt:Nat}{fs:Array Field}{xs:List α}{k:α}{v:Value}{I':List Item}(ht:P.underlying T=some (.map kt et))(ab:P.underlying kt=some (.struct fs))(he:EqT P kt α)(hc:KeyT P kt α)(hx:er L x=some (.map (some r)))
  (hy:er L y=some (.agg (Enc.enc k).toArray)) (hz:er L z=some v) (hv:v=e7 ((xs.length:Nat):Int)) (hk:k∉xs) (M:At I (mpE r xs) (mpE r<|xs++[k]) I') :
  Eff P κ N Q ⟨none,.mapUpdate T x y z,ty,ps,af,gd⟩ L I λL' I''=>L'=L/\I''=I':=
 Eff.of_skip rfl λa w ha hs=>by
  have hb:=(hs.ok _ M.mem).1
  have hf:=run_findStruct (w:=w) ab he k xs
  rw [if_neg hk] at hf
  have Z:=entF_snoc xs 0 k
  simp only [Nat.zero_add] at Z
  refine ⟨{w with heap:=w.heap.setIfInBounds r (.map (entF 0<|xs++[k]).toArray (xs++[k]).length)},I',?_,⟨rfl,rfl⟩,?_⟩
  ·subst hv
   have aa:(entF 0 xs).toArray.push {key:= .agg (Enc.enc k).toArray,val:=e7 ((xs.length:Nat):Int),born:=xs.length}=(entF 0<|xs++[k]).toArray:=by
    rw [Z];simp
   have hl:xs.length+1=(xs++[k]).length:=by simp
   simp [execOp,ha.eval hx,ha.eval hy,ha.eval hz,Instr.mapUpdate,run_underlying ht,MapKept.run_getObj_map hb,hc k,hf,MapKept.run_setObj_map _ hb,Result.andThen,Z]
  exact hs.upd M rfl ⟨rfl,Nat.le_refl _⟩ rfl (by simp) (λk _ ad=>(MapKept.heap_set hb).2 k λe=>ad e) (MapKept.heap_set hb).1 λk hk=> .inl hk
theorem Runs.lookupE{Z:Nat}{fs:Array Field}{xs:List α}{k:α}(ht:P.underlying T=some (.map Z et))(M:P.underlying Z=some (.struct fs))(he:EqT P Z α)(hc:KeyT P Z α)(hx:er L x=some (.map (some r)))
  (hy:er L y=some (.agg (Enc.enc k).toArray)) (hm:mpE r xs∈J) (hk:k∈xs):Runs P κ N ⟨d,.lookup T x y false,ty,ps,af,gd⟩ L J (e7 ((xs.idxOf k:Nat):Int)):=
 λa w ha hs=>by
  have hb:=(hs.ok _ hm).1
  have hf:=run_findStruct (w:=w) M he k xs
  rw [if_pos hk] at hf
  simp [execOp,ha.eval hx,ha.eval hy,Instr.lookup,run_underlying ht,MapKept.run_getObj_map hb,hc k,hf,Result.andThen]
end
end
end Go.Sl
