/- A part of the proofs of statements of this seat: contracts of functions, and the plain laws that they lean on. No conditions. -/
import Derived.Test.YtfkcohmipjhfcaaGreatDoorA18
set_option linter.unusedVariables false
set_option linter.unusedSimpArgs false
set_option linter.unusedSectionVars false
namespace Go.Sl
open Go.Proofs
set_option maxRecDepth 4000
theorem LongR.pick{rows:List (BitVec 64)}{Wq:BitVec 64}{m:Int}(h:LongR rows Wq 0 m):PickI rows Wq Wq [] m.toNat:=PickI.start (by
  rcases h.real with e|⟨X,hX,e⟩
  ·exact ⟨[],ClqIn.nil _ _,by simp;omega⟩
  ·exact ⟨X,hX,by omega⟩) fun Y hY=>by have:=h.all Y hY;omega
theorem ScanI.next{rows:List (BitVec 64)}{Aq M:BitVec 64}{left:Nat}{v:Int}(h:ScanI rows Aq (M &&& ~~~(1#64 <<< v.toNat)) left)(hv:0≤v)(hst:listB M=v::listB (M &&& (M - 1#64))):ScanI rows Aq (M &&& (M - 1#64)) left:=by
 have hm:∀x,x∈listB (M &&& (M - 1#64))↔x∈listB (M &&& ~~~(1#64 <<< v.toNat)):=fun x=>by
  rw [mem_minus hv,hst,List.mem_cons]
  have hn:=listB_nodup M
  rw [hst] at hn
  have h1:=(List.nodup_cons.1 hn).1
  constructor
  ·exact fun hx=>⟨.inr hx,fun e=>h1 (e▸hx)⟩
  ·rintro ⟨rfl|hx,h2⟩
   ·exact absurd rfl h2
   ·exact hx
 exact ⟨fun x hx=>h.sub x ((hm x).1 hx),fun Y hY hl=>⟨hY.clq,fun x hx=>(hm x).2 ((h.all Y hY hl).sub x hx)⟩⟩
theorem scan_lt{M:BitVec 64}{v:Int}(hst:listB M=v::listB (M &&& (M - 1#64))):(listB (M &&& (M - 1#64))).length<(listB M).length:=by rw [hst,List.length_cons];omega
def bestCl(nd:Int)(es:List Pt)(X:List Int):Prop:=MaxClR (rowsB nd es) (allB nd) X
set_option maxHeartbeats 2000000 in
theorem CBest_ok{κ:Ctx}{I:List Item}{nd:Int}{va:Value}{es:List Pt}(hl:Sl κ I va es)(hG:GrOk nd es)(h63:nd≤63)(hT:TabRd κ I 0 tzCells) :
    CallS Tryz.prog κ 188 [.agg #[I64 (nd),va]] I (fun r J=>∃a c X,r = .tuple #[.slice a (X:List Int).length c,I64 0]∧bestCl nd es X∧J=vc 3 (.slice a X.length c) X::I):=by
 have hrng:=hG.rng
 have hSS:=rows_sym hG
 have hrl:=hG.rows.len
 have hWn:∀x∈listB (allB nd),x<((rowsB nd es).length:Nat):=fun x hx=>by have h1:=listB_lt hx;have h2:=all_sub hrng.1 hrng.2 x hx;omega
 refine Ce1 Tryz.func188 rfl rfl ?_
 refine Ah (Ge1 (Bb (cs:=[_,_]) rfl rfl rfl) fun b1=>Ga rfl (Ga rfl (Af (Ao (Ah (Gl2 ty48 ?_))))))
 refine Gc0 (Am call83 rfl rfl (CheckGen_ok (Bf hl))) ?_
 refine Ga rfl (Af (Ah (Gm rfl (Gr (Bv rfl rfl) (Af (A9 rfl (fun c15=>?_) (fun c15=>?_)))))))
 ·exact absurd (checkG_ok.2 hG) c15
 ·refine A0 (Ai (Ah (Gl2 ty48 ?_)))
  refine Gc2 (Am call242 rfl rfl (CMasks_ok (nd:=nd) (Bf hl) hG)) fun ad2 cp3=>?_
  refine Ga rfl (Af (Ah (Gf fld48_0 rfl (Gl ty3 ?_))))
  refine Gr (Ef (a:=1#64) rfl rfl om om) (Gr (Runs.subB (a:=(1#64) <<< (nd).toNat) (b:=1#64) rfl rfl) (Ga rfl ?_))
  have hall:((1#64) <<< (nd).toNat) - (1#64)=allB nd:=by by_cases h0:nd=0;(· subst h0;decide+kernel);(· unfold allB;rw [if_neg om,if_neg om])
  rw [hall]
  refine Af (As (S2 6 5 rfl rfl) (Ah (Ga rfl (Af (Ao (Ah (Gm rfl (Gm rfl (G.e (Am call243 rfl rfl (Longest_ok Br hSS (Wq:=(allB nd)) (least:=0) (by first|exact hWn|exact hRn) (Cc hT A4))) ?_)))))))))
  rintro _ _ ⟨_,_,⟨mL4,rfl,hLmL4,hmmL4,rfl⟩,rfl,rfl⟩
  refine Ga rfl (Af (Ax (Bx (σ:=(BitVec 64)×(Option Addr)×Nat×(List Int)×Int) (fun s=>([(5,.slice ad2 (rowsB nd es).length cp3),(6,U64 (s.1)),(7,.slice s.2.1 s.2.2.2.1.length s.2.2.1),(8,I64 (s.2.2.2.2))]:Env)) (fun s=>vc 3 (.slice s.2.1 s.2.2.2.1.length s.2.2.1) (s.2.2.2.1)::vc 175 (.slice ad2 (rowsB nd es).length cp3) (rowsB nd es)::blk b1 [I64 (nd),va] 48::I) (fun s=>(0≤s.2.2.2.2∧s.2.2.2.2≤64)∧(PickI (rowsB nd es) (allB nd) s.1 s.2.2.2.1 s.2.2.2.2.toNat)∧(∀x∈listB s.1,x<((rowsB nd es).length:Nat))∧(s.2.2.2.1.length≤64)) (fun s=>s.2.2.2.2.toNat) (allB nd,none,0,[],mL4) (show (0≤(mL4:Int)∧(mL4:Int)≤64)∧(PickI (rowsB nd es) (allB nd) (allB nd:BitVec 64) ([]:List Int) (mL4:Int).toNat)∧(∀x∈listB (allB nd:BitVec 64),x<((rowsB nd es).length:Nat))∧(([]:List Int).length≤64) from ⟨⟨hLmL4.le,by omega⟩,hLmL4.pick,hWn,(by simp)⟩) (Ac rfl (Ac (Cz rfl (by first|rfl|simp)) (Ac (Cz rfl (by first|rfl|simp)) (Ac Cb Bq)))) (show Fit κ _ (vc 3 (.slice (none) ([]).length (0)) (([]))::vc 175 (.slice ad2 (rowsB nd es).length cp3) (rowsB nd es)::blk b1 [I64 (nd),va] 48::I) from (Cm (B3 (α:=Int) _ _) B7)) ?_)))
  rintro ⟨Aq,a,c,out,q⟩ hp
  dsimp only at hp ⊢
  obtain ⟨hq,hP,hAn,hol⟩:=hp
  refine Ao (Ah (Gm rfl (Gr (B5 rfl rfl) (Af (A9 rfl (fun c27=>?_) (fun c27=>?_))))))
  ·refine A0 (Ai (Ao (Ax (Ah (Gm rfl (Ga rfl (Af (Ax (Bx (σ:=(BitVec 64)) (fun s=>([(5,.slice ad2 (rowsB nd es).length cp3),(6,U64 (Aq)),(7,.slice a out.length c),(8,I64 (q)),(9,U64 (s))]:Env)) (fun s=>vc 3 (.slice a out.length c) (out)::vc 175 (.slice ad2 (rowsB nd es).length cp3) (rowsB nd es)::blk b1 [I64 (nd),va] 48::I) (fun s=>(ScanI (rowsB nd es) Aq s q.toNat)) (fun s=>(listB s).length) (Aq) (show (ScanI (rowsB nd es) Aq (Aq:BitVec 64) q.toNat) from (ScanI.start _ _ _)) (Ac rfl (Ac rfl (Ac rfl (Ac rfl (Ac (Cz rfl (by first|rfl|simp)) Bq))))) (show Fit κ _ (vc 3 (.slice a out.length c) (out)::vc 175 (.slice ad2 (rowsB nd es).length cp3) (rowsB nd es)::blk b1 [I64 (nd),va] 48::I) from Ay) ?_)))))))))
   rintro M hp
   have hSc:=hp
   refine Ao (Ah (Gm rfl (Gr (D8 (a:=M) (b:=0#64) rfl rfl) (Af (A9 rfl (fun c32=>?_) (fun c32=>?_))))))
   ·refine A0 (Ai (Ao (Ax (Ah (Gm rfl (G.e (Am call234 rfl rfl (Tz_ok M (Cc hT A4))) ?_))))))
    rintro _ _ ⟨_,_,⟨rfl,rfl⟩,rfl,rfl⟩
    refine Ga rfl ?_
    have hv0:=tzB_le (m:=M) c32
    have hst:=listB_step c32
    generalize hvE:tzB M=v at hv0 hst ⊢
    obtain ⟨hvm,hvl⟩:=hv0
    have hvr:=listB_lt hvm
    have hvA:=hSc.sub v hvm
    have hvn:=hAn v hvA
    have hRn:∀x∈listB ((M &&& ~~~(1#64 <<< (v).toNat)) &&& at_ (rowsB nd es) v),x<((rowsB nd es).length:Nat):=fun x hx=>by have h1:=hAn x (hSc.sub x ((mem_minus hvr.1).1 (mem_andB.1 hx).1).1);exact h1
    refine Af (Ao (Bo mixed (Bu (vc 3 (.slice a out.length c) (out)::vc 175 (.slice ad2 (rowsB nd es).length cp3) (rowsB nd es)::blk b1 [I64 (nd),va] 48::I) 10 (Dr 0 rfl (Ad rfl) (Dr 1 rfl (Ad rfl) (Dr 2 rfl (Ef (a:=1#64) rfl rfl om om) (Dr 3 rfl (Em (a:=M) (b:=(1#64) <<< (v).toNat) rfl rfl) (Dr 4 rfl (Ad rfl) (Dr 5 rfl (Ad rfl) (Dr 6 rfl (A8 (α:=(BitVec 64)) (xs:=rowsB nd es) C1 ty175 rfl rfl Br om om) (Dr 7 rfl (Cs (α:=(BitVec 64)) (xs:=rowsB nd es) (u:=U64 ((at_ (rowsB nd es) v))) ty175 rfl Br om om rfl) (Dr 8 rfl (C0 (a:=M &&& ~~~((1#64) <<< (v).toNat)) (b:=(at_ (rowsB nd es) v)) rfl rfl) (Dr 9 rfl (Bd rfl) (Dz (Ai (As (S7 11 10 5 6 7 8 9 rfl rfl rfl rfl rfl rfl rfl) (Ah (Gm rfl (Gm rfl (Gm rfl (Gr (Rsu rfl rfl) (G.e (Am call243 rfl rfl (Longest_ok Br hSS (Wq:=((M &&& ~~~((1#64) <<< (v).toNat)) &&& (at_ (rowsB nd es) v))) (least:=q - 2) (by first|exact hWn|exact hRn) (Cc hT A4))) ?_))))))))))))))))))))))
    rintro _ _ ⟨_,_,⟨mL5,rfl,hLmL5,hmmL5,rfl⟩,rfl,rfl⟩
    refine Gm rfl (Gr (Rsu rfl rfl) (Gr (Cg rfl rfl) (Af (As (S8 55 11 10 5 6 7 8 9 rfl rfl rfl rfl rfl rfl rfl rfl) (A9 rfl (fun c55=>?_) (fun c55=>?_))))))
    ·refine Ah (Gm rfl ?_)
     have hP2:=hSc.take hP om hvm hvl (by rcases hLmL5.real with e|⟨Y,hY,e⟩;(· omega);(· exact ⟨Y,hY,by omega⟩))
     refine Gm rfl (Ge1 (B9 (α:=Int) (cs:=[_]) (xs:=[v]) Ab ty3 rfl rfl dc dc rfl rfl rfl rfl) fun ad6=>?_)
     refine Ge2 (Ca (α:=Int) (e:=3) (xs:=out) (ys:=([v]:List Int)) Ab ty3 rfl rfl rfl mm Br lcn dc rfl (fun _ _=>am)) fun ad7 cp8=>?_
     exact Gm rfl (Ga rfl (Ga rfl (Af (As (S4 6 7 5 8 rfl rfl rfl rfl) (Bt (B8 rfl (Ak (Ak (A6 (Aj (Ai (Aw (Gm rfl (Gr (Rsu rfl rfl) (Ga rfl (Bj (B6 (((M &&& ~~~((1#64) <<< (v).toNat)) &&& (at_ (rowsB nd es) v)),(ad7),(cp8),(out++([v]:List Int)),(q - 1)) (by dsimp only;exact ⟨om,(by rw [show (q - 1).toNat=q.toNat - 1 by omega];exact hP2),hRn,(by have:=(hP2.join [] (ClqIn.nil _ _)).len;have h64:=Ed (allB nd);rw [List.append_nil] at this;omega)⟩))))))))))))))))))
    ·refine A0 (Aj (Ai (Aw (Gm rfl (Gm rfl (Gr (Runs.subB (a:=M) (b:=1#64) rfl rfl) (Gr (C0 (a:=M) (b:=M - (1#64)) rfl rfl) (Ga rfl (Bj ?_)))))))))
     have hSno:=hSc.skip hvm hvl (fun Y hY=>by have:=hLmL5.all Y hY;omega)
     exact B6 ((M &&& (M - (1#64)))) (hSno.next hvr.1 hst) (hlt:=by (try dsimp only);exact (scan_lt hst))
   ·exact absurd (Classical.not_not.1 c32) (hSc.ne hP om)
  ·refine Bt (Ak (Ak (A6 (Ai (Ah (Gm rfl (Ga rfl (Ga rfl (Af (A2 ?_))))))))))
   have hPd:PickI (rowsB nd es) (allB nd) Aq out 0:=by rw [show (0:Nat)=q.toNat by omega];exact hP
   exact C9 rfl rfl rfl (vc 3 (.slice a out.length c) out::I) B7 ⟨a,c,out,rfl,hPd.done,rfl⟩
variable {κ:Ctx}{I:List Item}
theorem sumL_set{l:List Int}{i v:Int}(h0:0≤i)(h:i<l.length):(l.set i.toNat v).sum=l.sum - at_ l i+v:=by
 obtain ⟨k,rfl⟩:=Int.eq_ofNat_of_zero_le h0
 rw [Int.toNat_natCast]
 clear h0
 induction l generalizing k with
 |nil=>simp at h;omega
 |cons x xs ih=>
  cases k with
  |zero=>simp [at_];omega
  |succ k=>
   have:=ih k (by simp at h;omega)
   have e:at_ (x::xs) ((k+1:Nat):Int)=at_ xs (k:Int):=by unfold at_;simp
   rw [e,List.set_cons_succ,List.sum_cons,List.sum_cons,this];omega
theorem sumL_take{l:List Int}{k:Nat}(h:k<l.length):(l.take (k+1)).sum=(l.take k).sum+at_ l (k:Int):=by
 rw [Db l k h,List.sum_append];simp
theorem sumL_rep(n:Nat):(List.replicate n (default:Int)).sum=0:=by
 induction n with
 |zero=>rfl
 |succ n ih=>rw [List.replicate_succ,List.sum_cons,ih];rfl
def triS(nd:Int)(es:List Pt):Int:=(es.map fun e=>((commonG nd es e.u e.v).length:Int)).sum
def triK(nd:Int)(es:List Pt)(k:Nat):Int:=((es.take k).map fun e=>((commonG nd es e.u e.v).length:Int)).sum
theorem triK_succ{nd:Int}{es:List Pt}{k:Nat}(h:k<es.length):triK nd es (k+1)=triK nd es k+((commonG nd es (at_ es (k:Int)).u (at_ es (k:Int)).v).length:Int):=by
 unfold triK
 rw [Db es k h,List.map_append,List.sum_append];simp
theorem triK_all(nd:Int)(es:List Pt):triK nd es es.length=triS nd es:=by unfold triK triS;rw [List.take_length]
theorem commonG_len(nd:Int)(es:List Pt)(u v:Int):(commonG nd es u v).length≤64:=by
 by_cases h:u=v
 ·unfold commonG;rw [if_pos h];simp
 ·rw [←common_eq h];exact Ed _
theorem triK_bd(nd:Int)(es:List Pt):∀k,k≤es.length→0≤triK nd es k∧triK nd es k≤64*(k:Int)
 |0,_=>by unfold triK;simp
 |k+1,h=>by
  have ih:=triK_bd nd es k om
  have:=commonG_len nd es (at_ es (k:Int)).u (at_ es (k:Int)).v
  rw [triK_succ om];omega
theorem sum_le_all{l:List Int}(h:∀x∈l,0≤x):∀k,k≤l.length→0≤(l.take k).sum∧(l.take k).sum≤l.sum:=by
 have key:∀l:List Int,(∀x∈l,0≤x)→∀k,0≤(l.take k).sum∧(l.take k).sum≤l.sum:=fun l=>by
  induction l with
  |nil=>intro _ k;simp
  |cons x xs ih=>
   intro h k
   have h0:=h x List.mem_cons_self
   have ih':=ih fun y hy=>h y (List.mem_cons_of_mem _ hy)
   cases k with
   |zero=>have:=ih' xs.length;rw [List.take_length] at this;simp;omega
   |succ k=>have:=ih' k;simp;omega
 exact fun k _=>key l h k
theorem common_rng{nd:Int}{es:List Pt}(hG:GrOk nd es){u v x:Int}(hx:x∈commonG nd es u v):0≤x∧x<nd:=by
 unfold commonG at hx
 split at hx
 ·cases hx
 ·have h1:=(mem_meetL.1 hx).1
  unfold nbG at h1
  rw [if_neg (by rw [checkG_ok.2 hG];decide),mem_ofL,mem_nbL] at h1
  rcases h1 with h|h
  ·have:=hG.edge _ h;simp only at this;omega
  ·have:=hG.edge _ h;simp only at this;omega
theorem mem_le_sum:∀{l:List Int},(∀x∈l,0≤x)→∀{x:Int},x∈l→x≤l.sum
 |[],_,x,hx=>by cases hx
 |y::ys,h,x,hx=>by
  have h0:=h y List.mem_cons_self
  have h1:∀z∈ys,0≤z:=fun z hz=>h z (List.mem_cons_of_mem _ hz)
  have h2:=(sum_le_all h1 ys.length (Nat.le_refl _))
  rw [List.take_length] at h2
  rw [List.sum_cons]
  rcases List.mem_cons.1 hx with rfl|hx
  ·omega
  ·have:=mem_le_sum h1 hx;omega
set_option maxHeartbeats 2000000 in
theorem Nodes29_ok{nd:Int}{va:Value}{es:List Pt}(hl:Sl κ I va es)(hG:GrOk nd es) :
    CallS Tryz.prog κ 138 [.agg #[I64 (nd),va]] I (fun r J=>∃a c,∃out:List Int,r = .tuple #[.slice a out.length c,I64 0]∧(out.length≤64∧out.sum=triS nd es∧∀x∈out,0≤x)∧J=vc 3 (.slice a out.length c) out::I):=by
 have hrng:=hG.rng
 have hle:=edges_le hG
 refine Ce1 Tryz.func138 rfl rfl ?_
 refine Ah (Ge1 (Bb (cs:=[_,_]) rfl rfl rfl) fun b1=>Ga rfl (Ga rfl (Af (Ao (Ah (Gl2 ty48 ?_))))))
 refine G.e (Am call30 rfl rfl (Check03G_ok (nd:=nd) (Bf hl))) ?_
 rintro _ _ ⟨_,_,⟨rfl,rfl⟩,rfl,rfl⟩
 refine Ga rfl (Af (Ah (Gm rfl (Gr (Bv rfl rfl) (Af (A9 rfl (fun c12=>?_) (fun c12=>?_)))))))
 ·exact absurd (checkG_ok.2 hG) c12
 ·refine A0 (Ai (Ah (Gf fld48_0 rfl (Gl ty3 ?_))))
  refine Ge2 (Cp (α:=Int) (n:=nd.toNat) Ab ty3 rfl rfl rfl om om dc rfl) fun ad2 cp3=>?_
  refine Ga rfl (Af (Ao (Ah (Ga rfl (Af (As (S3 6 5 1 rfl rfl rfl) (Ax (Bx (σ:=Nat×(List Int)) (fun s=>([(1,.pointer (some ⟨b1,0,none⟩)),(5,.slice ad2 (List.replicate nd.toNat (default:Int)).length cp3),(6,I64 (((s.1:Nat):Int)))]:Env)) (fun s=>vc 3 (.slice ad2 (List.replicate nd.toNat (default:Int)).length cp3) (s.2)::blk b1 [I64 (nd),va] 48::I) (fun s=>(s.1≤es.length)∧(s.2.length=nd.toNat)∧(s.2.sum=triK nd es s.1)∧(∀x∈s.2,0≤x)) (fun s=>es.length - s.1) (0,List.replicate nd.toNat (default:Int)) (show ((0:Nat)≤es.length)∧((List.replicate nd.toNat (default:Int):List Int).length=nd.toNat)∧((List.replicate nd.toNat (default:Int):List Int).sum=triK nd es (0:Nat))∧(∀x∈(List.replicate nd.toNat (default:Int):List Int),0≤x) from ⟨om,(by rw [List.length_replicate]),(by rw [sumL_rep];rfl),(fun x hx=>by rw [List.eq_of_mem_replicate hx];exact Int.le_refl 0)⟩) (Ac rfl (Ac rfl (Ac Cb Bq))) (show Fit κ _ (vc 3 (.slice ad2 (List.replicate nd.toNat (default:Int)).length cp3) ((List.replicate nd.toNat (default:Int)))::blk b1 [I64 (nd),va] 48::I) from B7) ?_))))))))
  rintro ⟨k,out⟩ hp
  dsimp only at hp ⊢
  obtain ⟨hk,hol,hos,ho0⟩:=hp
  have htb:=fun h:k≤es.length=>triK_bd nd es k h
  refine Ao (Ah (Gm rfl (Gf fld48_1 rfl (Gl ty46 ?_))))
  refine Gr (Bz (α:=Pt) (xs:=es) Bh rfl (Bf hl)) (Gr (Bc rfl rfl) (Af (A9 rfl (fun c21=>?_) (fun c21=>?_))))
  ·refine A0 (Ai (Ao (Ax (Ao (Bo mixed (Bu (vc 3 (.slice ad2 (List.replicate nd.toNat (default:Int)).length cp3) (out)::blk b1 [I64 (nd),va] 48::I) 15 (Dr 0 rfl (Bm (vs:=[_,_]) ty48) ?_)))))))
   refine Dr 1 rfl (Aa fld48_1 rfl) (Dr 2 rfl (Au ty46) ?_)
   refine Dr 3 rfl (Ad rfl) (Dr 4 rfl (A8 (α:=Pt) (xs:=es) Bh ty135 rfl rfl (Bf hl) om oo) (Dr 5 rfl (Dq (α:=Pt) (xs:=es) fld135_0 rfl (Bf hl) oo) (Dr 6 rfl (D6 (α:=Pt) (xs:=es) (u:=I64 ((at_ es (k:Int)).u)) ty3 rfl (Bf hl) om oo rfl) (Dr 7 rfl (Aa fld48_1 rfl) (Dr 8 rfl (Au ty46) ?_)))))
   refine Dr 9 rfl (Ad rfl) (Dr 10 rfl (A8 (α:=Pt) (xs:=es) Bh ty135 rfl rfl (Bf hl) om oo) (Dr 11 rfl (Dq (α:=Pt) (xs:=es) fld135_1 rfl (Bf hl) oo) (Dr 12 rfl (D6 (α:=Pt) (xs:=es) (u:=I64 ((at_ es (k:Int)).v)) ty3 rfl (Bf hl) om oo rfl) (Ds1 13 (Sc2 rfl (Am call203 rfl rfl (Common03_ok (nd:=nd) (Bf hl) ((at_ es (k:Int)).u) ((at_ es (k:Int)).v) om)) fun ad4 cp5=>?_)))))
   refine Dr 14 rfl (Bd rfl) (Dz (Ai (As (S4 7 1 5 6 rfl rfl rfl rfl) (Ah (Ga rfl (Af (Ax (Bx (σ:=Nat×(List Int)) (fun s=>([(1,.pointer (some ⟨b1,0,none⟩)),(5,.slice ad2 (List.replicate nd.toNat (default:Int)).length cp3),(6,I64 ((k:Int))),(7,.slice ad4 (commonG nd es ((at_ es (k:Int)).u) ((at_ es (k:Int)).v)).length cp5),(8,I64 (((s.1:Nat):Int)))]:Env)) (fun s=>vc 3 (.slice ad2 (List.replicate nd.toNat (default:Int)).length cp3) (s.2)::vc 3 (.slice ad4 (commonG nd es ((at_ es (k:Int)).u) ((at_ es (k:Int)).v)).length cp5) (commonG nd es ((at_ es (k:Int)).u) ((at_ es (k:Int)).v))::blk b1 [I64 (nd),va] 48::I) (fun s=>(s.1≤(commonG nd es (at_ es (k:Int)).u (at_ es (k:Int)).v).length)∧(s.2.length=nd.toNat)∧(s.2.sum=triK nd es k+(s.1:Int))∧(∀x∈s.2,0≤x)) (fun s=>(commonG nd es (at_ es (k:Int)).u (at_ es (k:Int)).v).length - s.1) (0,out) (show ((0:Nat)≤(commonG nd es (at_ es (k:Int)).u (at_ es (k:Int)).v).length)∧((out:List Int).length=nd.toNat)∧((out:List Int).sum=triK nd es k+((0:Nat):Int))∧(∀x∈(out:List Int),0≤x) from ⟨om,hol,(by rw [hos];simp),ho0⟩) (Ac rfl (Ac rfl (Ac rfl (Ac rfl (Ac Cb Bq))))) (show Fit κ _ (vc 3 (.slice ad2 (List.replicate nd.toNat (default:Int)).length cp3) ((out))::vc 3 (.slice ad4 (commonG nd es ((at_ es (k:Int)).u) ((at_ es (k:Int)).v)).length cp5) (commonG nd es ((at_ es (k:Int)).u) ((at_ es (k:Int)).v))::blk b1 [I64 (nd),va] 48::I) from B7) ?_))))))))
   rintro ⟨k2,out2⟩ hp
   dsimp only at hp ⊢
   obtain ⟨hk2,hol2,hos2,ho02⟩:=hp
   have hcw:k2<(commonG nd es (at_ es (k:Int)).u (at_ es (k:Int)).v).length→0≤at_ (commonG nd es (at_ es (k:Int)).u (at_ es (k:Int)).v) (k2:Int)∧at_ (commonG nd es (at_ es (k:Int)).u (at_ es (k:Int)).v) (k2:Int)<nd:=fun h=>common_rng hG (Ck om om)
   have hcl:=commonG_len nd es (at_ es (k:Int)).u (at_ es (k:Int)).v
   have hox:k2<(commonG nd es (at_ es (k:Int)).u (at_ es (k:Int)).v).length→0≤at_ out2 (at_ (commonG nd es (at_ es (k:Int)).u (at_ es (k:Int)).v) (k2:Int))∧at_ out2 (at_ (commonG nd es (at_ es (k:Int)).u (at_ es (k:Int)).v) (k2:Int))≤1000000:=fun h=>by have h1:=hcw h;have h2:=Ck (xs:=out2) (i:=at_ (commonG nd es (at_ es (k:Int)).u (at_ es (k:Int)).v) (k2:Int)) om om;have h3:=mem_le_sum ho02 h2;have h4:=ho02 _ h2;have h5:=htb om;omega
   refine Ao (Ah (Gm rfl (Gm rfl (Gr (Bw Ab rfl) (Gr (Bc rfl rfl) (Af (A9 rfl (fun c41=>?_) (fun c41=>?_))))))))
   ·refine A0 (Ai (Ao (Ax (Aw (Gm rfl (Gm rfl (Gm rfl (Gr (A8 (α:=Int) (xs:=commonG nd es ((at_ es (k:Int)).u) ((at_ es (k:Int)).v)) Ab ty3 rfl rfl Br om oo) (Gr (B2 (xs:=commonG nd es ((at_ es (k:Int)).u) ((at_ es (k:Int)).v)) ty3 rfl Br om oo) (Gr (A8 (α:=Int) (xs:=out2) Ab ty3 rfl rfl Br om oo) (Gr (B2 (xs:=out2) ty3 rfl Br om oo) (Gr (Rad rfl rfl) (Gr (A8 (α:=Int) (xs:=out2) Ab ty3 rfl rfl Br om oo) (Ge0 (Cy (α:=Int) (xs:=out2) (e:=3) (new:=(at_ out2 (at_ (commonG nd es ((at_ es (k:Int)).u) ((at_ es (k:Int)).v)) (k2:Int)))+1) ty3 rfl rfl rfl om oo am) ?_))))))))))))))
    exact Bj (Aj (Ai (As (S5 1 5 6 7 8 rfl rfl rfl rfl rfl) (Aw (Gm rfl (Gr (Rad rfl rfl) (Ga rfl (Bj (B6 ((k2+1),(List.set out2 (at_ (commonG nd es ((at_ es (k:Int)).u) ((at_ es (k:Int)).v)) (k2:Int)).toNat ((at_ out2 (at_ (commonG nd es ((at_ es (k:Int)).u) ((at_ es (k:Int)).v)) (k2:Int)))+1))) (by dsimp only;exact ⟨om,(by rw [List.length_set];exact hol2),(by rw [sumL_set om om,hos2];omega),(fun x hx=>by rcases List.mem_or_eq_of_mem_set hx with h|h;(· exact ho02 x h);(· rw [h];have:=hox om;omega))⟩))))))))))
   ·exact Bt (Ak (Ak (A6 (Aj (Ai (Aw (Gm rfl (Gr (Rad rfl rfl) (Ga rfl (Bj (B6 ((k+1),(out2)) (by dsimp only;exact ⟨om,hol2,(by rw [triK_succ om,hos2,show k2=(commonG nd es (at_ es (k:Int)).u (at_ es (k:Int)).v).length by omega]),ho02⟩))))))))))))
  ·refine Bt (Ak (Ak (A6 (Ai (Ah (Gm rfl (Ga rfl (Ga rfl (Af (A2 ?_))))))))))
   have hcl3:(List.replicate nd.toNat (default:Int)).length=out.length:=by rw [List.length_replicate,hol]
   exact C9 rfl rfl rfl (vc 3 (.slice ad2 out.length cp3) out::I) (by rw [←hcl3];exact B7) ⟨ad2,cp3,out,by rw [←hcl3],⟨by omega,by rw [hos,show k=es.length by omega,triK_all],ho0⟩,rfl⟩
theorem triS_bd{nd:Int}{es:List Pt}(hG:GrOk nd es):0≤triS nd es∧triS nd es≤129024:=by
 have:=triK_bd nd es es.length (Nat.le_refl _)
 rw [triK_all] at this
 have:=edges_le hG
 omega
theorem Count29_ok{nd:Int}{va:Value}{es:List Pt}(hl:Sl κ I va es)(hG:GrOk nd es) :
    CallS Tryz.prog κ 75 [.agg #[I64 (nd),va]] I (fun r J=>r = .tuple #[I64 (triS nd es / 3),I64 0]∧I=J):=by
 refine Ce1 Tryz.func75 rfl rfl ?_
 refine Ah (Ge1 (Bb (cs:=[_,_]) rfl rfl rfl) fun b1=>Ga rfl (Ga rfl (Af (Ah (Gl2 ty48 ?_)))))
 refine G.e (Am call138 rfl rfl (Nodes29_ok (nd:=nd) (Bf hl) hG)) ?_
 rintro _ _ ⟨_,_,⟨ad2,cp3,on4,rfl,hN29,rfl⟩,rfl,rfl⟩
 refine Gm rfl (Gr (Az rfl rfl) (Gr (Az rfl rfl) (Ga rfl (Ga rfl (Af (Ah (Ga rfl (Af (Ao (Ah (Ga rfl (Af (Ax (Bx (σ:=Nat×Int) (fun s=>([(4,.slice ad2 on4.length cp3),(5,I64 (0)),(6,I64 (s.2)),(7,I64 (((s.1:Nat):Int)))]:Env)) (fun s=>vc 3 (.slice ad2 on4.length cp3) (on4)::blk b1 [I64 (nd),va] 48::I) (fun s=>(s.1≤on4.length)∧(s.2=(on4.take s.1).sum)) (fun s=>on4.length - s.1) (0,0) (show ((0:Nat)≤on4.length)∧((0:Int)=(on4.take (0:Nat)).sum) from ⟨om,rfl⟩) (Ac rfl (Ac rfl (Ac Cb (Ac Cb Bq)))) (show Fit κ _ (vc 3 (.slice ad2 on4.length cp3) (on4)::blk b1 [I64 (nd),va] 48::I) from Ay) ?_))))))))))))))
 rintro ⟨k,q⟩ hp
 dsimp only at hp ⊢
 obtain ⟨hk,hqs⟩:=hp
 have hsb:=sum_le_all hN29.2.2 k om
 have hsx:=fun h:k<on4.length=>hN29.2.2 _ (Ck (xs:=on4) (i:=((k:Nat):Int)) om om)
 have hsy:=fun h:k<on4.length=>mem_le_sum hN29.2.2 (Ck (xs:=on4) (i:=((k:Nat):Int)) om om)
 have htt:=triS_bd hG
 have hNs:=hN29.2.1
 refine Ao (Ah (Gm rfl (Gm rfl (Gr (Bw Ab rfl) (Gr (Bc rfl rfl) (Af (A9 rfl (fun c16=>?_) (fun c16=>?_))))))))
 ·exact A0 (Ai (Ao (Ax (Aw (Gm rfl (Gm rfl (Gm rfl (Gr (A8 (α:=Int) (xs:=on4) Ab ty3 rfl rfl Br om om) (Gr (B2 (xs:=on4) ty3 rfl Br om om) (Gr (Rad rfl rfl) (Ga rfl (Bj (Aj (Ai (As (S4 6 4 5 7 rfl rfl rfl rfl) (Aw (Gm rfl (Gr (Rad rfl rfl) (Ga rfl (Bj (B6 ((k+1),(q+(at_ on4 (k:Int)))) (by dsimp only;exact ⟨om,(by rw [sumL_take om,←hqs])⟩))))))))))))))))))))))
 ·refine Bt (Ak (Ak (A6 (Ai (Ah (Gm rfl (Gr (Runs.quo rfl rfl om om (by unfold InR;omega)) (Gm rfl (Ga rfl (Ga rfl (Af (A2 ?_))))))))))))
  have hqe:q=triS nd es:=by rw [hqs,List.take_of_length_le om];exact hNs
  exact C9 rfl rfl rfl (I) A4 ⟨by rw [hqe],rfl⟩
def interF(xs ys:List Int):List Int:=xs.filter fun x=>decide (x∈ys)
theorem head_drop{xs:List Int}(h:0<xs.length):xs=at_ xs 0::List.drop 1 xs:=by
 cases xs with
 |nil=>cases h
 |cons x xs=>rfl
theorem asc_drop{xs:List Int}(h:xs.Pairwise (fun x0 x1:Int=>x0<x1)):(List.drop 1 xs).Pairwise (fun x0 x1:Int=>x0<x1):=h.sublist (List.drop_sublist _ _)
theorem head_lt{xs:List Int}(h:xs.Pairwise (fun x0 x1:Int=>x0<x1))(h0:0<xs.length){y:Int}(hy:y∈List.drop 1 xs):at_ xs 0<y:=by
 rw [head_drop h0] at h
 exact (List.pairwise_cons.1 h).1 y hy
theorem inter_lt{xs ys:List Int}(hy:ys.Pairwise (fun x0 x1:Int=>x0<x1))(h0:0<xs.length)(h1:0<ys.length)(h:at_ xs 0<at_ ys 0):interF xs ys=interF (List.drop 1 xs) ys:=by
 have hn:at_ xs 0∉ys:=fun hm=>by
  rw [head_drop h1] at hm
  rcases List.mem_cons.1 hm with e|e
  ·omega
  ·have:=head_lt hy h1 e;omega
 conv=>lhs;rw [head_drop h0]
 unfold interF
 rw [List.filter_cons_of_neg (by simpa using hn)]
theorem inter_gt{xs ys:List Int}(hx:xs.Pairwise (fun x0 x1:Int=>x0<x1))(h0:0<xs.length)(h1:0<ys.length)(h:at_ ys 0<at_ xs 0):interF xs ys=interF xs (List.drop 1 ys):=by
 unfold interF
 refine List.filter_congr fun x hxm=>?_
 rw [decide_eq_decide]
 have hge:at_ ys 0<x:=by
  rw [head_drop h0] at hxm
  rcases List.mem_cons.1 hxm with rfl|e
  ·exact h
  ·have:=head_lt hx h0 e;omega
 constructor
 ·intro hm
  rw [head_drop h1] at hm
  rcases List.mem_cons.1 hm with e|e
  ·omega
  ·exact e
 ·exact fun hm=>List.mem_of_mem_drop hm
theorem inter_eq{xs ys:List Int}(hx:xs.Pairwise (fun x0 x1:Int=>x0<x1))(h0:0<xs.length)(h1:0<ys.length)(h:at_ xs 0=at_ ys 0):interF xs ys=at_ xs 0::interF (List.drop 1 xs) (List.drop 1 ys):=by
 have hm:at_ xs 0∈ys:=by rw [h];exact Ck om om
 conv=>lhs;rw [head_drop h0]
 unfold interF
 rw [List.filter_cons_of_pos (p:=fun x=>decide (x∈ys)) (decide_eq_true hm)]
 congr 1
 refine List.filter_congr fun x hxm=>?_
 rw [decide_eq_decide]
 have hge:=head_lt hx h0 hxm
 constructor
 ·intro hm
  rw [head_drop h1] at hm
  rcases List.mem_cons.1 hm with e|e
  ·omega
  ·exact e
 ·exact fun hm=>List.mem_of_mem_drop hm
theorem inter_nil{xs ys:List Int}(h:xs.length=0∨ys.length=0):interF xs ys=[]:=by
 unfold interF
 rcases h with h|h
 ·rw [List.length_eq_zero_iff.1 h];rfl
 ·rw [List.length_eq_zero_iff.1 h];simp
theorem Shared_ok{κ:Ctx}{I:List Item}{a0 b0:Option Addr}{c0 d0:Nat}{xs ys:List Int}(hl:Sl κ I (.slice a0 xs.length c0) xs)(hm:Sl κ I (.slice b0 ys.length d0) ys)(hx:xs.Pairwise (fun x0 x1:Int=>x0<x1))(hy:ys.Pairwise (fun x0 x1:Int=>x0<x1))(hb:xs.length≤100000) :
    CallS Tryz.prog κ 289 [.slice a0 xs.length c0,.slice b0 ys.length d0] I (fun r J=>∃a c,r = .slice a (interF xs ys).length c∧J=vc 3 (.slice a (interF xs ys).length c) (interF xs ys)::I):=by
 refine Ce2 Tryz.func289 rfl rfl ?_
 refine Ah (Ga rfl (Af (Ah (Ga rfl (Af (Ao (Ax (Bx (σ:=(Option Addr)×Nat×(List Int)×(Option Addr)×Nat×(List Int)×(Option Addr)×Nat×(List Int)) (fun s=>([(0,.slice s.1 s.2.2.1.length s.2.1),(1,.slice s.2.2.2.1 s.2.2.2.2.2.1.length s.2.2.2.2.1),(5,.slice s.2.2.2.2.2.2.1 s.2.2.2.2.2.2.2.2.length s.2.2.2.2.2.2.2.1)]:Env)) (fun s=>vc 3 (.slice s.2.2.2.2.2.2.1 s.2.2.2.2.2.2.2.2.length s.2.2.2.2.2.2.2.1) (s.2.2.2.2.2.2.2.2)::I) (fun s=>(Sl κ I (.slice s.1 s.2.2.1.length s.2.1) s.2.2.1)∧(Sl κ I (.slice s.2.2.2.1 s.2.2.2.2.2.1.length s.2.2.2.2.1) s.2.2.2.2.2.1)∧(s.2.2.1.Pairwise (fun x0 x1:Int=>x0<x1))∧(s.2.2.2.2.2.1.Pairwise (fun x0 x1:Int=>x0<x1))∧(interF xs ys=s.2.2.2.2.2.2.2.2++interF s.2.2.1 s.2.2.2.2.2.1)∧(s.2.2.2.2.2.2.2.2.length+s.2.2.1.length≤xs.length)) (fun s=>(s.2.2.1.length+s.2.2.2.2.2.1.length)) (a0,c0,xs,b0,d0,ys,none,0,[]) (show (Sl κ I (.slice (a0:Option Addr) (xs:List Int).length (c0:Nat)) (xs:List Int))∧(Sl κ I (.slice (b0:Option Addr) (ys:List Int).length (d0:Nat)) (ys:List Int))∧((xs:List Int).Pairwise (fun x0 x1:Int=>x0<x1))∧((ys:List Int).Pairwise (fun x0 x1:Int=>x0<x1))∧(interF xs ys=([]:List Int)++interF (xs:List Int) (ys:List Int))∧(([]:List Int).length+(xs:List Int).length≤xs.length) from ⟨hl,hm,hx,hy,rfl,(by simp)⟩) (Ac (Cz rfl (by first|rfl|simp)) (Ac (Cz rfl (by first|rfl|simp)) (Ac (Cz rfl (by first|rfl|simp)) Bq))) (show Fit κ _ (vc 3 (.slice (none) ([]).length (0)) (([]))::I) from (B3 _ _)) ?_))))))))
 rintro ⟨pa,pc,as1,qa,qc,bs1,oa,oc,out⟩ hp
 dsimp only at hp ⊢
 obtain ⟨hA,hB,hxa,hyb,hin,hob⟩:=hp
 refine Ao (Ah (Gm rfl (Gr (Bw Ab rfl) (Gr (B5 rfl rfl) (Gm rfl (Bi (d:=9) rfl (fun g9=>?_) (fun g9=>?_)))))))
 ·refine Gro (Ad rfl) (Gro (Bw Ab rfl) (Gro (B5 rfl rfl) (Gr (Ap rfl rfl) (Af (A9 rfl (fun c13=>?_) (fun c13=>?_))))))
  ·refine A0 (Ai (Ax (Ao (Bo mixed (Bu (vc 3 (.slice oa out.length oc) (out)::I) 7 (Dr 0 rfl (Ad rfl) (Dr 1 rfl (A8 (α:=Int) (xs:=as1) Ab ty3 rfl rfl (Bf hA) om om) (Dr 2 rfl (B2 (xs:=as1) ty3 rfl (Bf hA) om om) (Dr 3 rfl (Ad rfl) (Dr 4 rfl (A8 (α:=Int) (xs:=bs1) Ab ty3 rfl rfl (Bf hB) om om) (Dr 5 rfl (B2 (xs:=bs1) ty3 rfl (Bf hB) om om) (Ds1 6 (Sc0 rfl (Am call225 rfl rfl (Compare_ok (at_ as1 0) (at_ bs1 0))) ?_)))))))))))))
   have hcI:(at_ as1 0<at_ bs1 0∧cmpI (at_ as1 0) (at_ bs1 0) = -1)∨(at_ bs1 0<at_ as1 0∧cmpI (at_ as1 0) (at_ bs1 0)=1)∨(at_ as1 0=at_ bs1 0∧cmpI (at_ as1 0) (at_ bs1 0)=0):=by unfold cmpI;repeat (first|omega|split)
   refine Dz (Ai (As (S4 20 0 1 5 rfl rfl rfl rfl) (Ax (Ah (Gr (Bs rfl rfl) (Ga rfl (Af (A9 rfl (fun c31=>?_) (fun c31=>?_)))))))))
   ·exact Aw (Gm rfl (Gr (El (α:=Int) (xs:=as1) (l:=1) Ab ty3 rfl rfl om (Bf hA) om) (Ga rfl (Bj (Aj (Aj (B6 (((adrop pa pc 1 (Enc.sz Int))),((pc - 1)),(List.drop 1 as1),(qa),(qc),(bs1),(oa),(oc),(out)) (by dsimp only;exact ⟨(Sl.drop hA om),hB,(asc_drop hxa),hyb,(by rw [hin,inter_lt hyb om om om]),(by first|omega|(simp only [List.length_append,List.length_drop,List.length_cons,List.length_nil];omega))⟩) (hlt:=by (try dsimp only);exact (by simp only [List.length_drop];omega)))))))))
   ·refine Ah (Gr (Bs rfl rfl) (Ga rfl (Af (A9 rfl (fun c35=>?_) (fun c35=>?_)))))
    ·exact Aw (Gm rfl (Gr (El (α:=Int) (xs:=bs1) (l:=1) Ab ty3 rfl rfl om (Bf hB) om) (Ga rfl (Bj (Aj (Aj (B6 ((pa),(pc),(as1),((adrop qa qc 1 (Enc.sz Int))),((qc - 1)),(List.drop 1 bs1),(oa),(oc),(out)) (by dsimp only;exact ⟨hA,(Sl.drop hB om),hxa,(asc_drop hyb),(by rw [hin,inter_gt hxa om om om]),(by first|omega|(simp only [List.length_append,List.length_drop,List.length_cons,List.length_nil];omega))⟩) (hlt:=by (try dsimp only);exact (by simp only [List.length_drop];omega)))))))))
    ·refine Ah (Gm rfl (Gm rfl (Gr (A8 (α:=Int) (xs:=as1) Ab ty3 rfl rfl (Bf hA) om om) (Gr (B2 (xs:=as1) ty3 rfl (Bf hA) om om) (Ge1 (B9 (α:=Int) (cs:=[_]) (xs:=[at_ as1 0]) Ab ty3 rfl rfl dc dc rfl rfl rfl rfl) fun ad1=>?_)))))
     refine Ge2 (Ca (α:=Int) (e:=3) (xs:=out) (ys:=([at_ as1 0]:List Int)) Ab ty3 rfl rfl rfl mm Br lcn dc rfl (fun _ _=>am)) fun ad2 cp3=>?_
     exact Ga rfl (Af (As (S3 5 0 1 rfl rfl rfl) (Bo mixed (Bu (vc 3 (.slice ad1 1 1) (([at_ as1 0]:List Int))::vc 3 (.slice ad2 (out++([at_ as1 0]:List Int)).length cp3) (out++([at_ as1 0]:List Int))::I) 6 (Dr 0 rfl (Ad rfl) (Dr 1 rfl (El (α:=Int) (xs:=as1) (l:=1) Ab ty3 rfl rfl om (Bf hA) om) (Dr 2 rfl (Ad rfl) (Dr 3 rfl (El (α:=Int) (xs:=bs1) (l:=1) Ab ty3 rfl rfl om (Bf hB) om) (Dr 4 rfl (Bd rfl) (Dr 5 rfl (Bd rfl) (Dz (Aj (Aj (B6 (((adrop pa pc 1 (Enc.sz Int))),((pc - 1)),(List.drop 1 as1),((adrop qa qc 1 (Enc.sz Int))),((qc - 1)),(List.drop 1 bs1),(ad2),(cp3),(out++([at_ as1 0]:List Int))) (by dsimp only;exact ⟨(Sl.drop hA om),(Sl.drop hB om),(asc_drop hxa),(asc_drop hyb),(by rw [hin,inter_eq hxa om om om,List.append_assoc];rfl),(by first|omega|(simp only [List.length_append,List.length_drop,List.length_cons,List.length_nil];omega))⟩) (hlt:=by (try dsimp only);exact (by simp only [List.length_drop];omega))))))))))))))))
  ·refine Bt (Ak (Ak (A6 (Ai (Ah (Gm rfl (Ga rfl (Af (As (S1 4 rfl) (A2 ?_))))))))))
   have hE:interF xs ys=out:=by rw [hin,inter_nil om,List.append_nil]
   exact A7 rfl rfl (vc 3 (.slice oa (interF xs ys).length oc) (interF xs ys)::I) (by rw [hE];exact Ay) ⟨oa,oc,by rw [hE],rfl⟩
 ·refine Gpo (Gpo (Gpo (Gr (Av rfl rfl) (Af (Cx rfl (Bt (Ak (Ak (A6 (Ai (Ah (Gm rfl (Ga rfl (Af (As (S1 4 rfl) (A2 ?_))))))))))))))))
  have hE:interF xs ys=out:=by rw [hin,inter_nil om,List.append_nil]
  exact A7 rfl rfl (vc 3 (.slice oa (interF xs ys).length oc) (interF xs ys)::I) (by rw [hE];exact Ay) ⟨oa,oc,by rw [hE],rfl⟩
variable {κ:Ctx}{I:List Item}
theorem FitW{κ:Ctx}{A B:List Item}(h:B.Sublist A:=by repeat (first|exact List.Sublist.refl _|exact List.sublist_append_right _ _|apply List.Sublist.cons_cons|apply List.Sublist.cons)):Fit κ A B:=Fit.of_sublist h
theorem At.ow{I:List Item}{ad:Option Addr}{c:Nat}{xs:List Int}:∀{rs:List (RowG Int)} {i:Int},0≤i→i<rs.length→
  At (ownR 3 rs++I) (vc 3 (.slice (at_ rs i).a (at_ rs i).xs.length (at_ rs i).c) (at_ rs i).xs) (vc 3 (.slice ad xs.length c) xs) (ownR 3 (List.set rs i.toNat ⟨ad,c,xs⟩)++I):=fun {rs} {i} h0 h=>by
 obtain ⟨k,rfl⟩:∃k:Nat,i=(k:Int):=⟨i.toNat,by omega⟩
 rw [Int.toNat_natCast]
 clear h0
 induction rs generalizing k with
 |nil=>simp at h;omega
 |cons r rs ih=>
  cases k with
  |zero=>exact At.head _ _ _
  |succ k=>exact At.tail _ (ih k (by simp at h;omega))
theorem ow_mem{I:List Item}{rs:List (RowG Int)}{i:Int}(h0:0≤i)(h:i<rs.length):vc 3 (.slice (at_ rs i).a (at_ rs i).xs.length (at_ rs i).c) (at_ rs i).xs∈ownR 3 rs++I:=(At.ow (ad:=none) (c:=0) (xs:=[]) h0 h).mem
theorem ow_held{rs:List (RowG Int)}{i:Int}(h0:0≤i)(h:i<rs.length):Sl κ (ownR 3 rs++I) (.slice (at_ rs i).a (at_ rs i).xs.length (at_ rs i).c) (at_ rs i).xs:=Sl.vec (ow_mem h0 h)
theorem At.ow2{I:List Item}{ad:Option Addr}{c:Nat}{xs:List Int}{rs:List (RowG Int)}{i j:Int}{x:RowG Int}(h0:0≤i)(h:i<rs.length)(j0:0≤j)(hj:j<rs.length)(hne:j≠i) :
  At (ownR 3 (List.set rs j.toNat x)++I) (vc 3 (.slice (at_ rs i).a (at_ rs i).xs.length (at_ rs i).c) (at_ rs i).xs) (vc 3 (.slice ad xs.length c) xs) (ownR 3 (List.set (List.set rs j.toNat x) i.toNat ⟨ad,c,xs⟩)++I):=by
 have h1:=At.ow (I:=I) (ad:=ad) (c:=c) (xs:=xs) (rs:=List.set rs j.toNat x) (i:=i) h0 (by rw [List.length_set];exact h)
 rw [Dc _ _ _ _ j0 h0 hj,if_neg hne] at h1
 exact h1
theorem Fit.nilow:∀(rs:List (RowG Int)),(∀r∈rs,r=default)→Fit κ I (ownR 3 rs++I)
 |[],_=>Fit.refl _
 |r::rs,h=>by
  refine Cm (Fit.nilow rs fun x hx=>h x (List.mem_cons_of_mem _ hx)) ?_
  show Fit κ _ (vc 3 (.slice r.a r.xs.length r.c) r.xs::_)
  rw [h r List.mem_cons_self]
  exact B3 _ _
theorem Atp{I I':List Item}{x y:Item}(h:At I x y I':=by repeat (first|exact At.ow asm asm|exact At.ow2 asm asm asm asm asm|apply At.tail)):At I x y I':=h
theorem ow2_mem{I:List Item}{rs:List (RowG Int)}{i j:Int}{x:RowG Int}(h0:0≤i)(h:i<rs.length)(j0:0≤j)(hj:j<rs.length)(hne:j≠i):vc 3 (.slice (at_ rs i).a (at_ rs i).xs.length (at_ rs i).c) (at_ rs i).xs∈ownR 3 (List.set rs j.toNat x)++I:=(At.ow2 (ad:=none) (c:=0) (xs:=[]) h0 h j0 hj hne).mem
theorem Mmp{I:List Item}{x:Item}(h:x∈I:=by repeat (first|exact ow_mem asm asm|exact ow2_mem asm asm asm asm asm|apply List.mem_cons_of_mem)):x∈I:=h
structure RowsI (nd:Int) (es:List Pt) (rs:List (RowG Int)):Prop where
 len:(rs.length:Int)=nd
 row:∀i:Int,0≤i→i<nd→(at_ rs i).xs=nbL es i
theorem RowsI.start{nd:Int}(h:0≤nd):RowsI nd [] (List.replicate nd.toNat (default:RowG Int)):=⟨by rw [List.length_replicate];omega,fun i h0 h1=>by rw [at_rep _ _ _ h0 om];rfl⟩
theorem RowsI.push{nd:Int}{es:List Pt}{k:Nat}{rs:List (RowG Int)}(h:RowsI nd (es.take k) rs)(hk:k<es.length)(he:0≤(at_ es (k:Int)).u∧(at_ es (k:Int)).u<(at_ es (k:Int)).v∧(at_ es (k:Int)).v<nd)(a b:Option Addr)(c d:Nat) :
  RowsI nd (es.take (k+1)) (List.set (List.set rs (at_ es (k:Int)).u.toNat ⟨a,c,(at_ rs (at_ es (k:Int)).u).xs++[(at_ es (k:Int)).v]⟩) (at_ es (k:Int)).v.toNat ⟨b,d,(at_ rs (at_ es (k:Int)).v).xs++[(at_ es (k:Int)).u]⟩):=by
 have hl:=h.len
 refine ⟨by rw [List.length_set,List.length_set];exact hl,fun i h0 h1=>?_⟩
 rw [nbL_take hk,Dc _ _ _ _ om h0 (by rw [List.length_set];omega),Dc _ _ _ _ om h0 om]
 by_cases e1:(at_ es (k:Int)).v=i
 ·rw [if_pos e1,if_neg om,if_pos e1]
  show (at_ rs (at_ es (k:Int)).v).xs++_=_
  rw [e1,h.row i h0 h1];rfl
 ·rw [if_neg e1,if_neg e1]
  by_cases e2:(at_ es (k:Int)).u=i
  ·rw [if_pos e2,if_pos e2]
   show (at_ rs (at_ es (k:Int)).u).xs++_=_
   rw [e2,h.row i h0 h1,List.append_nil]
  ·rw [if_neg e2,if_neg e2,h.row i h0 h1];simp
theorem CallS.at_ow{κ:Ctx}{A I:List Item}{rs:List (RowG Int)}{i:Int}{x:RowG Int}(hx:at_ rs i=x)(h0:0≤i)(h:i<rs.length)(hsz:x.xs.length<4611686018427387904) :
  CallS Tryz.prog κ 142 [.slice x.a x.xs.length x.c] (A++(ownR 3 rs++I)) fun r J=>∃R,r = .tuple #[]∧(vc 3 (.slice x.a x.xs.length x.c) (sortZ x.xs)::R).Perm (A++(ownR 3 (List.set rs i.toNat ⟨x.a,x.c,sortZ x.xs⟩)++I))∧J=vc 3 (.slice x.a x.xs.length x.c) (sortZ x.xs)::R:=by
 have hat:=At.ow (I:=I) (ad:=x.a) (c:=x.c) (xs:=sortZ x.xs) (rs:=rs) (i:=i) h0 h
 rw [hx] at hat
 obtain ⟨R,h1,h2⟩:=hat.perm
 rw [sortZ_len] at h2
 have hp:(A++(ownR 3 rs++I)).Perm (vc 3 (.slice x.a x.xs.length x.c) x.xs::(A++R)):=(List.Perm.append_left A h1).trans List.perm_middle
 have hp2:(vc 3 (.slice x.a x.xs.length x.c) (sortZ x.xs)::(A++R)).Perm (A++(ownR 3 (List.set rs i.toNat ⟨x.a,x.c,sortZ x.xs⟩)++I)):=(List.perm_middle.symm).trans (List.Perm.append_left A h2.symm)
 exact Cn (Ea hp) ((sortI_ok (e:=3) hsz).mono fun r J ⟨e1,e2⟩=>⟨A++R,e1,hp2,e2⟩)
theorem nbL_nodup{nd:Int}:∀{es:List Pt},es.Nodup→(∀e∈es,e.u<e.v)→∀v,(nbL es v).Nodup
  |[],_,_,v=>List.nodup_nil
  |e::es,hn,h,v=>by
    obtain ⟨h1,h2⟩:=List.nodup_cons.1 hn
    have ih:=nbL_nodup (nd:=nd) h2 (fun x hx=>h x (List.mem_cons_of_mem _ hx)) v
    have he:=h e List.mem_cons_self
    have e1:nbL (e::es) v=((if e.u=v then [e.v] else [])++(if e.v=v then [e.u] else []))++nbL es v:=rfl
    rw [e1]
    by_cases a:e.u=v
    · rw [if_pos a,if_neg om,List.append_nil]
      refine List.nodup_cons.2 ⟨fun hm=>?_,ih⟩
      rcases mem_nbL.1 hm with hh|hh
      · exact h1 (by have:e=⟨v,e.v⟩:=by rw [Pt.ext_iff'];exact ⟨a,rfl⟩
                     rw [this];exact hh)
      · have:=h _ (List.mem_cons_of_mem _ hh);simp only at this;omega
    · rw [if_neg a]
      by_cases b:e.v=v
      · rw [if_pos b,List.nil_append]
        refine List.nodup_cons.2 ⟨fun hm=>?_,ih⟩
        rcases mem_nbL.1 hm with hh|hh
        · have:=h _ (List.mem_cons_of_mem _ hh);simp only at this;omega
        · exact h1 (by have:e=⟨e.u,v⟩:=by rw [Pt.ext_iff'];exact ⟨rfl,b⟩
                       rw [this];exact hh)
      · rw [if_neg b];exact ih
theorem sort_nb{nd:Int}{es:List Pt}(hG:GrOk nd es)(v:Int):sortZ (nbL es v)=nbG nd es v:=by
 have hn:=nbL_nodup (nd:=nd) (asc_nodup hG.asc) (fun e he=>(hG.edge e he).2.1) v
 unfold nbG
 rw [if_neg (by rw [checkG_ok.2 hG];decide)]
 refine intLin.uniq ?_ (ofL_asc _) fun x=>by rw [mem_sortZ,mem_ofL]
 have h1:=sortZ_asc (nbL es v)
 have h2:(sortZ (nbL es v)).Nodup:=(sortZ_perm _).nodup_iff.2 hn
 exact (h1.and h2).imp fun h=>by have:=h.1;have:=h.2;omega
structure ListsR (nd:Int) (es:List Pt) (rs rs2:List (RowG Int)):Prop where
 len:(rs.length:Int)=nd∧(rs2.length:Int)=nd
 row:∀i:Int,0≤i→i<nd→at_ rs2 i=⟨(at_ rs i).a,(at_ rs i).c,nbG nd es i⟩∧(at_ rs i).xs.length=(nbG nd es i).length
structure SortI (nd:Int) (rs rs2:List (RowG Int)) (k:Nat):Prop where
 len:rs2.length=rs.length
 done:∀i:Int,0≤i→i<(k:Int)→at_ rs2 i=⟨(at_ rs i).a,(at_ rs i).c,sortZ (at_ rs i).xs⟩
 rest:∀i:Int,(k:Int)≤i→i<rs.length→at_ rs2 i=at_ rs i
theorem SortI.start(nd:Int)(rs:List (RowG Int)):SortI nd rs rs 0:=⟨rfl,fun i h0 h1=>by omega,fun i _ _=>rfl⟩
theorem SortI.step{nd:Int}{rs rs2:List (RowG Int)}{k:Nat}(h:SortI nd rs rs2 k)(hk:k<rs.length):SortI nd rs (List.set rs2 ((k:Int)).toNat ⟨(at_ rs (k:Int)).a,(at_ rs (k:Int)).c,sortZ (at_ rs (k:Int)).xs⟩) (k+1):=by
 have hl:=h.len
 refine ⟨by rw [List.length_set];exact hl,fun i h0 h1=>?_,fun i h0 h1=>?_⟩
 ·rw [Dc _ _ _ _ om h0 om]
  by_cases e:(k:Int)=i
  ·rw [if_pos e,e]
  ·rw [if_neg e];exact h.done i h0 om
 ·rw [Dc _ _ _ _ om om om,if_neg om];exact h.rest i om h1
theorem SortI.all{nd:Int}{es:List Pt}{rs rs2:List (RowG Int)}{k:Nat}(hG:GrOk nd es)(h:SortI nd rs rs2 k)(hR:RowsI nd es rs)(hk:k=rs.length):ListsR nd es rs rs2:=by
 have hl:=h.len
 have hr:=hR.len
 refine ⟨⟨hr,by omega⟩,fun i h0 h1=>?_⟩
 have e:=hR.row i h0 h1
 rw [h.done i h0 om,e,sort_nb hG]
 refine ⟨rfl,?_⟩
 rw [←sort_nb hG,sortZ_len]
theorem ListsR.held{nd:Int}{es:List Pt}{rs rs2:List (RowG Int)}(h:ListsR nd es rs rs2){i:Int}(h0:0≤i)(h1:i<nd):Sl κ (ownR 3 rs2++I) (.slice (at_ rs i).a (at_ rs i).xs.length (at_ rs i).c) (nbG nd es i):=by
 obtain ⟨e,el⟩:=h.row i h0 h1
 have hh:=ow_held (κ:=κ) (I:=I) (rs:=rs2) (i:=i) h0 (by have:=h.len;omega)
 rw [e] at hh
 rw [el];exact hh
set_option maxHeartbeats 4000000 in
theorem Lists_ok{nd:Int}{va:Value}{es:List Pt}(hl:Sl κ I va es)(hG:GrOk nd es) :
    CallS Tryz.prog κ 288 [.agg #[I64 (nd),va]] I (fun r J=>∃a c rs rs2,r = .slice a (rs:List (RowG Int)).length c∧ListsR nd es rs rs2∧J=vc 22 (.slice a rs.length c) rs::(ownR 3 rs2++I)):=by
 refine B4 hl.le fun hmax=>?_
 have hrng:=hG.rng
 have hle:=edges_le hG
 refine Ce1 Tryz.func288 rfl rfl ?_
 refine Ah (Ge1 (Bb (cs:=[_,_]) rfl rfl rfl) fun b1=>Ga rfl (Af (Ah (Gf fld48_0 rfl (Gl ty3 ?_)))))
 refine Ge2 (Cp (α:=(RowG Int)) (n:=nd.toNat) Bp ty22 rfl rfl rfl om om dc rfl) fun ad2 cp3=>?_
 refine Ga rfl ?_
 have hrep:(List.replicate nd.toNat (default:RowG Int)).length=nd.toNat:=List.length_replicate
 refine G.pull (p:=0<(List.replicate nd.toNat (default:RowG Int)).length→ad2≠none) (vc.isSome mm) fun hsome=>?_
 refine Af (Ao (Ah (Gf fld48_1 rfl (Gl ty46 ?_))))
 refine Gr (Bz (α:=Pt) (xs:=es) Bh rfl (Bf hl)) (Gm rfl (Af (Ax (Bx (σ:=Nat×(List (RowG Int))) (fun s=>([(3,.slice ad2 (List.replicate nd.toNat (default:(RowG Int))).length cp3),(12,va),(13,I64 (((es.length:Nat):Int))),(14,I64 (((s.1:Nat):Int)))]:Env)) (fun s=>vc 22 (.slice ad2 (List.replicate nd.toNat (default:(RowG Int))).length cp3) (s.2)::blk b1 [I64 (nd),va] 48::(ownR 3 s.2++I)) (fun s=>(s.1≤es.length)∧(RowsI nd (es.take s.1) s.2)) (fun s=>es.length - s.1) (0,List.replicate nd.toNat (default:(RowG Int))) (show ((0:Nat)≤es.length)∧(RowsI nd (es.take (0:Nat)) (List.replicate nd.toNat (default:(RowG Int)):List (RowG Int))) from ⟨om,(RowsI.start om)⟩) (Ac rfl (Ac rfl (Ac rfl (Ac Cb Bq)))) (show Fit κ _ (vc 22 (.slice ad2 (List.replicate nd.toNat (default:(RowG Int))).length cp3) ((List.replicate nd.toNat (default:(RowG Int))))::blk b1 [I64 (nd),va] 48::(ownR 3 (List.replicate nd.toNat (default:(RowG Int)))++I)) from (Cm (show Fit κ _ (ownR 3 (List.replicate nd.toNat (default:(RowG Int)))++(vc 22 (.slice ad2 (List.replicate nd.toNat (default:(RowG Int))).length cp3) (List.replicate nd.toNat (default:(RowG Int)))::blk b1 [I64 (nd),va] 48::I)) from Cm B7 (Fit.nilow _ (fun r hr=>List.eq_of_mem_replicate hr))) (Ea (perm_fr (A:=ownR 3 (List.replicate nd.toNat (default:(RowG Int)))) (L:=[vc 22 (.slice ad2 (List.replicate nd.toNat (default:(RowG Int))).length cp3) (List.replicate nd.toNat (default:(RowG Int))),blk b1 [I64 (nd),va] 48]) (T:=I))))) ?_))))
 rintro ⟨k,rs⟩ hp
 dsimp only at hp ⊢
 obtain ⟨hk,hR⟩:=hp
 have hed:=fun h:k<es.length=>hG.at h
 have hRl:=hR.len
 refine Ah (Gr (Bc rfl rfl) (Af (Ao (A9 rfl (fun c15=>?_) (fun c15=>?_)))))
 ·refine A0 (Ai (Ao (Ax (Ah (Gr (A8 (α:=Pt) (xs:=es) Bh ty135 rfl rfl (Bf hl) om om) (Gr (B0 (α:=Pt) (xs:=es) ty135 rfl (Bf hl) om om) (Ge1 (A5 ty135 rfl) fun b4=>Ge0 (B1 ty135) ?_)))))))
  obtain ⟨hu0,huv,hvn⟩:=hed om
  have hur:((at_ es (k:Int)).u)<rs.length:=by omega
  have hv0:0≤((at_ es (k:Int)).v):=by omega
  have hvr:((at_ es (k:Int)).v)<rs.length:=by omega
  have hune:((at_ es (k:Int)).u)≠((at_ es (k:Int)).v):=by omega
  have hau:(((at_ rs ((at_ es (k:Int)).u)).xs).length+([((at_ es (k:Int)).v)]:List Int).length)*8≤140737488355328:=by rw [hR.row _ om om];have h2:=nbL_len (es.take k) ((at_ es (k:Int)).u);simp only [List.length_take,List.length_cons,List.length_nil] at h2 ⊢; omega
  have hav:(((at_ rs ((at_ es (k:Int)).v)).xs).length+([((at_ es (k:Int)).u)]:List Int).length)*8≤140737488355328:=by rw [hR.row _ om om];have h3:=nbL_len (es.take k) ((at_ es (k:Int)).v);simp only [List.length_take,List.length_cons,List.length_nil] at h3 ⊢; omega
  refine Af (Bo mixed (Bu (blk b4 [I64 ((at_ es (k:Int)).u),I64 ((at_ es (k:Int)).v)] 135::I) 28 (Dp 0 rfl kr kr kr rfl kr (fun _ _ _ _ h=>h) (Bg rfl) rfl rfl FitW (Ad rfl) ?_)))
  refine Dp 1 rfl kr kr kr rfl kr (fun _ _ _ _ h=>h) (Bg rfl) rfl rfl FitW (Aa fld135_0 rfl) ?_
  refine Dp 2 rfl kr kr kr rfl kr (fun _ _ _ _ h=>h) (Bg rfl) rfl rfl FitW (Au ty3) ?_
  refine Dp 3 rfl kr kr kr rfl kr (fun _ _ _ _ h=>h) (Bg rfl) rfl rfl FitW (Ad rfl) ?_
  refine Dp 4 rfl kr kr kr rfl kr (fun _ _ _ _ h=>h) (Bg rfl) rfl rfl FitW (Aa fld135_1 rfl) ?_
  refine Dp 5 rfl kr kr kr rfl kr (fun _ _ _ _ h=>h) (Bg rfl) rfl rfl FitW (Au ty3) ?_
  refine Dp 6 rfl kr kr kr rfl kr (fun _ _ _ _ h=>h) (Bg rfl) rfl rfl FitW (Ad rfl) ?_
  refine Dp 7 rfl kr kr kr rfl kr (fun _ _ _ _ h=>h) (Bg rfl) rfl rfl FitW (Aa fld135_0 rfl) ?_
  refine Dp 8 rfl kr kr kr rfl kr (fun _ _ _ _ h=>h) (Bg rfl) rfl rfl FitW (Au ty3) ?_
  refine Dp 9 rfl kr kr kr rfl kr (fun _ _ _ _ h=>h) (Bg rfl) rfl rfl FitW (Runs.idxs (RowG Int) Bp ty22 rfl rfl (hsome om) om om) ?_
  refine Dp 11 rfl kr kr kr rfl kr (fun _ _ _ _ h=>h) (Bg rfl) rfl rfl FitW (Aa fld135_1 rfl) ?_
  refine Dp 12 rfl kr kr kr rfl kr (fun _ _ _ _ h=>h) (Bg rfl) rfl rfl FitW (Au ty3) ?_
  refine Dp 15 rfl kr kr kr rfl kr (fun _ _ _ _ h=>h) (Bg rfl) rfl rfl FitW (Ad rfl) ?_
  refine Dp 16 rfl kr kr kr rfl kr (fun _ _ _ _ h=>h) (Bg rfl) rfl rfl FitW (Aa fld135_1 rfl) ?_
  refine Dp 17 rfl kr kr kr rfl kr (fun _ _ _ _ h=>h) (Bg rfl) rfl rfl FitW (Au ty3) ?_
  refine Dp 18 rfl kr kr kr rfl kr (fun _ _ _ _ h=>h) (Bg rfl) rfl rfl FitW (Runs.idxs (RowG Int) Bp ty22 rfl rfl (hsome om) om om) ?_
  refine Dp 20 rfl kr kr kr rfl kr (fun _ _ _ _ h=>h) (Bg rfl) rfl rfl FitW (Aa fld135_0 rfl) ?_
  refine Dp 21 rfl kr kr kr rfl kr (fun _ _ _ _ h=>h) (Bg rfl) rfl rfl FitW (Au ty3) ?_
  refine D.two (blk b4 [I64 ((at_ es (k:Int)).u),I64 ((at_ es (k:Int)).v)] 135::vc 22 (.slice ad2 (List.replicate nd.toNat (default:(RowG Int))).length cp3) (rs)::I) 25 FitW ?_
  refine D2.read 10 rfl kr kr kr rfl kr (fun _ _ _ _ h=>h) (Bg rfl) rfl rfl FitW (Cs (α:=(RowG Int)) (xs:=rs) (u:= .slice (at_ rs ((at_ es (k:Int)).u)).a (at_ rs ((at_ es (k:Int)).u)).xs.length (at_ rs ((at_ es (k:Int)).u)).c) ty22 rfl Br om om rfl) ?_
  refine D2.read 19 rfl kr kr kr rfl kr (fun _ _ _ _ h=>h) (Bg rfl) rfl rfl FitW (Cs (α:=(RowG Int)) (xs:=rs) (u:= .slice (at_ rs ((at_ es (k:Int)).v)).a (at_ rs ((at_ es (k:Int)).v)).xs.length (at_ rs ((at_ es (k:Int)).v)).c) ty22 rfl Br om om rfl) ?_
  refine E9 (rs:=[13,22]) kr rfl rfl (Eb ?_ (Du ?_))
  ·refine Dt rfl (Bg rfl) (B9 (α:=Int) (cs:=[_]) (xs:=[(at_ es (k:Int)).v]) Ab ty3 rfl rfl dc dc rfl rfl rfl rfl) ?_
   rintro _ _ ⟨ad5,rfl,rfl⟩
   refine ⟨FitW,?_⟩
   refine E9 (rs:=[14,22]) kr rfl rfl (Eb ?_ (Du ?_))
   ·refine Dt rfl (Bg rfl) (Ca (α:=Int) (e:=3) (xs:=(at_ rs ((at_ es (k:Int)).u)).xs) (ys:=([(at_ es (k:Int)).v]:List Int)) Ab ty3 rfl rfl rfl Mmp Br hau dc rfl (fun _ _=>Atp)) ?_
    rintro _ _ ⟨ad6,cp7,rfl,rfl⟩
    refine ⟨FitW,?_⟩
    refine E9 (rs:=[22]) kr rfl rfl (Du ?_)
    refine Dt rfl (Bg rfl) (B9 (α:=Int) (cs:=[_]) (xs:=[(at_ es (k:Int)).u]) Ab ty3 rfl rfl dc dc rfl rfl rfl rfl) ?_
    rintro _ _ ⟨ad8,rfl,rfl⟩
    refine ⟨FitW,?_⟩
    refine E9 (rs:=[23]) kr rfl rfl (Du ?_)
    refine Dt rfl (Bg rfl) (Ca (α:=Int) (e:=3) (xs:=(at_ rs ((at_ es (k:Int)).v)).xs) (ys:=([(at_ es (k:Int)).u]:List Int)) Ab ty3 rfl rfl rfl Mmp Br hav dc rfl (fun _ _=>Atp)) ?_
    rintro _ _ ⟨ad9,cp10,rfl,rfl⟩
    refine ⟨FitW,?_⟩
    refine D2.read 24 rfl kr kr kr rfl kr (fun _ _ _ _ h=>h) (Bg rfl) rfl rfl FitW (Runs.idxs (RowG Int) Bp ty22 rfl rfl (hsome om) om om) ?_
    refine D2.stop kr ?_
    refine Ds1 25 (Se rfl (Cy (α:=(RowG Int)) (xs:=rs) (e:=22) (new:=(⟨ad6,cp7,((at_ rs ((at_ es (k:Int)).u)).xs++([(at_ es (k:Int)).v]:List Int))⟩:RowG Int)) ty22 rfl rfl rfl om (by first|omega|(rw [List.length_set];omega)) am) ?_)
    rintro _ _ ⟨rfl,rfl⟩
    refine ⟨FitW,?_⟩
    refine Dp 26 rfl kr kr kr rfl kr (fun _ _ _ _ h=>h) (Bg rfl) rfl rfl FitW (Runs.idxs (RowG Int) Bp ty22 rfl rfl (hsome om) om om) ?_
    refine Ds1 27 (Se rfl (Cy (α:=(RowG Int)) (xs:=List.set rs ((at_ es (k:Int)).u).toNat (⟨ad6,cp7,((at_ rs ((at_ es (k:Int)).u)).xs++([(at_ es (k:Int)).v]:List Int))⟩:RowG Int)) (e:=22) (new:=(⟨ad9,cp10,((at_ rs ((at_ es (k:Int)).v)).xs++([(at_ es (k:Int)).u]:List Int))⟩:RowG Int)) ty22 rfl rfl rfl om (by first|omega|(rw [List.length_set];omega)) am) ?_)
    rintro _ _ ⟨rfl,rfl⟩
    refine ⟨FitW,?_⟩
    exact Dz (Aj (Ai (As (S4 3 12 13 14 rfl rfl rfl rfl) (Aw (Gr (Rad rfl rfl) (Gm rfl (Bj (B6 ((k+1),(List.set (List.set rs ((at_ es (k:Int)).u).toNat (⟨ad6,cp7,((at_ rs ((at_ es (k:Int)).u)).xs++([(at_ es (k:Int)).v]:List Int))⟩:RowG Int)) ((at_ es (k:Int)).v).toNat (⟨ad9,cp10,((at_ rs ((at_ es (k:Int)).v)).xs++([(at_ es (k:Int)).u]:List Int))⟩:RowG Int))) (by dsimp only;exact ⟨om,(hR.push om om _ _ _ _)⟩)))))))))
   ·refine Dt rfl (Bg rfl) (B9 (α:=Int) (cs:=[_]) (xs:=[(at_ es (k:Int)).u]) Ab ty3 rfl rfl dc dc rfl rfl rfl rfl) ?_
    rintro _ _ ⟨ad11,rfl,rfl⟩
    refine ⟨FitW,?_⟩
    refine E9 (rs:=[14]) kr rfl rfl (Du ?_)
    refine Dt rfl (Bg rfl) (Ca (α:=Int) (e:=3) (xs:=(at_ rs ((at_ es (k:Int)).u)).xs) (ys:=([(at_ es (k:Int)).v]:List Int)) Ab ty3 rfl rfl rfl Mmp Br hau dc rfl (fun _ _=>Atp)) ?_
    rintro _ _ ⟨ad12,cp13,rfl,rfl⟩
    refine ⟨FitW,?_⟩
    refine E9 (rs:=[23]) kr rfl rfl (Du ?_)
    refine Dt rfl (Bg rfl) (Ca (α:=Int) (e:=3) (xs:=(at_ rs ((at_ es (k:Int)).v)).xs) (ys:=([(at_ es (k:Int)).u]:List Int)) Ab ty3 rfl rfl rfl Mmp Br hav dc rfl (fun _ _=>Atp)) ?_
    rintro _ _ ⟨ad14,cp15,rfl,rfl⟩
    refine ⟨FitW,?_⟩
    refine D2.read 24 rfl kr kr kr rfl kr (fun _ _ _ _ h=>h) (Bg rfl) rfl rfl FitW (Runs.idxs (RowG Int) Bp ty22 rfl rfl (hsome om) om om) ?_
    refine D2.stop kr ?_
    refine Ds1 25 (Se rfl (Cy (α:=(RowG Int)) (xs:=rs) (e:=22) (new:=(⟨ad12,cp13,((at_ rs ((at_ es (k:Int)).u)).xs++([(at_ es (k:Int)).v]:List Int))⟩:RowG Int)) ty22 rfl rfl rfl om (by first|omega|(rw [List.length_set];omega)) am) ?_)
    rintro _ _ ⟨rfl,rfl⟩
    refine ⟨FitW,?_⟩
    refine Dp 26 rfl kr kr kr rfl kr (fun _ _ _ _ h=>h) (Bg rfl) rfl rfl FitW (Runs.idxs (RowG Int) Bp ty22 rfl rfl (hsome om) om om) ?_
    refine Ds1 27 (Se rfl (Cy (α:=(RowG Int)) (xs:=List.set rs ((at_ es (k:Int)).u).toNat (⟨ad12,cp13,((at_ rs ((at_ es (k:Int)).u)).xs++([(at_ es (k:Int)).v]:List Int))⟩:RowG Int)) (e:=22) (new:=(⟨ad14,cp15,((at_ rs ((at_ es (k:Int)).v)).xs++([(at_ es (k:Int)).u]:List Int))⟩:RowG Int)) ty22 rfl rfl rfl om (by first|omega|(rw [List.length_set];omega)) am) ?_)
    rintro _ _ ⟨rfl,rfl⟩
    refine ⟨FitW,?_⟩
    exact Dz (Aj (Ai (As (S4 3 12 13 14 rfl rfl rfl rfl) (Aw (Gr (Rad rfl rfl) (Gm rfl (Bj (B6 ((k+1),(List.set (List.set rs ((at_ es (k:Int)).u).toNat (⟨ad12,cp13,((at_ rs ((at_ es (k:Int)).u)).xs++([(at_ es (k:Int)).v]:List Int))⟩:RowG Int)) ((at_ es (k:Int)).v).toNat (⟨ad14,cp15,((at_ rs ((at_ es (k:Int)).v)).xs++([(at_ es (k:Int)).u]:List Int))⟩:RowG Int))) (by dsimp only;exact ⟨om,(hR.push om om _ _ _ _)⟩)))))))))
  ·refine Dt rfl (Bg rfl) (B9 (α:=Int) (cs:=[_]) (xs:=[(at_ es (k:Int)).u]) Ab ty3 rfl rfl dc dc rfl rfl rfl rfl) ?_
   rintro _ _ ⟨ad16,rfl,rfl⟩
   refine ⟨FitW,?_⟩
   refine E9 (rs:=[13]) kr rfl rfl (Du ?_)
   refine Dt rfl (Bg rfl) (B9 (α:=Int) (cs:=[_]) (xs:=[(at_ es (k:Int)).v]) Ab ty3 rfl rfl dc dc rfl rfl rfl rfl) ?_
   rintro _ _ ⟨ad17,rfl,rfl⟩
   refine ⟨FitW,?_⟩
   refine E9 (rs:=[14]) kr rfl rfl (Du ?_)
   refine Dt rfl (Bg rfl) (Ca (α:=Int) (e:=3) (xs:=(at_ rs ((at_ es (k:Int)).u)).xs) (ys:=([(at_ es (k:Int)).v]:List Int)) Ab ty3 rfl rfl rfl Mmp Br hau dc rfl (fun _ _=>Atp)) ?_
   rintro _ _ ⟨ad18,cp19,rfl,rfl⟩
   refine ⟨FitW,?_⟩
   refine E9 (rs:=[23]) kr rfl rfl (Du ?_)
   refine Dt rfl (Bg rfl) (Ca (α:=Int) (e:=3) (xs:=(at_ rs ((at_ es (k:Int)).v)).xs) (ys:=([(at_ es (k:Int)).u]:List Int)) Ab ty3 rfl rfl rfl Mmp Br hav dc rfl (fun _ _=>Atp)) ?_
   rintro _ _ ⟨ad20,cp21,rfl,rfl⟩
   refine ⟨FitW,?_⟩
   refine D2.read 24 rfl kr kr kr rfl kr (fun _ _ _ _ h=>h) (Bg rfl) rfl rfl FitW (Runs.idxs (RowG Int) Bp ty22 rfl rfl (hsome om) om om) ?_
   refine D2.stop kr ?_
   refine Ds1 25 (Se rfl (Cy (α:=(RowG Int)) (xs:=rs) (e:=22) (new:=(⟨ad18,cp19,((at_ rs ((at_ es (k:Int)).u)).xs++([(at_ es (k:Int)).v]:List Int))⟩:RowG Int)) ty22 rfl rfl rfl om (by first|omega|(rw [List.length_set];omega)) am) ?_)
   rintro _ _ ⟨rfl,rfl⟩
   refine ⟨FitW,?_⟩
   refine Dp 26 rfl kr kr kr rfl kr (fun _ _ _ _ h=>h) (Bg rfl) rfl rfl FitW (Runs.idxs (RowG Int) Bp ty22 rfl rfl (hsome om) om om) ?_
   refine Ds1 27 (Se rfl (Cy (α:=(RowG Int)) (xs:=List.set rs ((at_ es (k:Int)).u).toNat (⟨ad18,cp19,((at_ rs ((at_ es (k:Int)).u)).xs++([(at_ es (k:Int)).v]:List Int))⟩:RowG Int)) (e:=22) (new:=(⟨ad20,cp21,((at_ rs ((at_ es (k:Int)).v)).xs++([(at_ es (k:Int)).u]:List Int))⟩:RowG Int)) ty22 rfl rfl rfl om (by first|omega|(rw [List.length_set];omega)) am) ?_)
   rintro _ _ ⟨rfl,rfl⟩
   refine ⟨FitW,?_⟩
   exact Dz (Aj (Ai (As (S4 3 12 13 14 rfl rfl rfl rfl) (Aw (Gr (Rad rfl rfl) (Gm rfl (Bj (B6 ((k+1),(List.set (List.set rs ((at_ es (k:Int)).u).toNat (⟨ad18,cp19,((at_ rs ((at_ es (k:Int)).u)).xs++([(at_ es (k:Int)).v]:List Int))⟩:RowG Int)) ((at_ es (k:Int)).v).toNat (⟨ad20,cp21,((at_ rs ((at_ es (k:Int)).v)).xs++([(at_ es (k:Int)).u]:List Int))⟩:RowG Int))) (by dsimp only;exact ⟨om,(hR.push om om _ _ _ _)⟩)))))))))
 ·refine Bt (Ak (Ak (A6 (Ai (Ao (Ah (Gm rfl ?_)))))))
  have hR2:RowsI nd es rs:=by rw [List.take_of_length_le om] at hR;exact hR
  refine Gr (Bw Bp rfl) (Gm rfl (Af (Ax (Bx (σ:=Nat×(List (RowG Int))) (fun s=>([(3,.slice ad2 (List.replicate nd.toNat (default:(RowG Int))).length cp3),(45,.slice ad2 (List.replicate nd.toNat (default:(RowG Int))).length cp3),(46,I64 ((((List.replicate nd.toNat (default:(RowG Int))).length:Nat):Int))),(47,I64 (((s.1:Nat):Int)))]:Env)) (fun s=>vc 22 (.slice ad2 (List.replicate nd.toNat (default:(RowG Int))).length cp3) (rs)::blk b1 [I64 (nd),va] 48::(ownR 3 s.2++I)) (fun s=>(s.1≤rs.length)∧(SortI nd rs s.2 s.1)) (fun s=>rs.length - s.1) (0,rs) (show ((0:Nat)≤rs.length)∧(SortI nd rs (rs:List (RowG Int)) (0:Nat)) from ⟨om,(SortI.start nd rs)⟩) (Ac rfl (Ac rfl (Ac rfl (Ac Cb Bq)))) (show Fit κ _ (vc 22 (.slice ad2 (List.replicate nd.toNat (default:(RowG Int))).length cp3) (rs)::blk b1 [I64 (nd),va] 48::(ownR 3 (rs)++I)) from Ay) ?_))))
  rintro ⟨k2,rs2⟩ hp
  dsimp only at hp ⊢
  obtain ⟨hk2,hSI⟩:=hp
  have hSl:=hSI.len
  refine Ah (Gr (Bc rfl rfl) (Af (Ao (A9 rfl (fun c48=>?_) (fun c48=>?_)))))
  ·refine A0 (Ai (Ao (Ax (Ah (Gr (A8 (α:=(RowG Int)) (xs:=rs) Bp ty22 rfl rfl Br om om) (Gr (Cs (α:=(RowG Int)) (xs:=rs) (u:= .slice (at_ rs (k2:Int)).a (at_ rs (k2:Int)).xs.length (at_ rs (k2:Int)).c) ty22 rfl Br om om rfl) (Ga rfl (Af (Aw (Gm rfl (G.e (Am call142 rfl rfl (CallS.at_ow (A:=[vc 22 (.slice ad2 (List.replicate nd.toNat (default:(RowG Int))).length cp3) (rs),blk b1 [I64 (nd),va] 48]) (I:=I) (rs:=rs2) (i:=(k2:Int)) (x:=(at_ rs (k2:Int))) (hSI.rest _ (Int.le_refl _) om) om om (by rw [hR2.row _ om om];have:=nbL_len es (k2:Int);omega))) ?_)))))))))))
   rintro _ _ ⟨_,_,⟨R922,rfl,hpR922,rfl⟩,rfl,rfl⟩
   refine G.fit (J:=vc 22 (.slice ad2 (List.replicate nd.toNat (default:(RowG Int))).length cp3) (rs)::blk b1 [I64 (nd),va] 48::(ownR 3 (List.set rs2 ((k2:Int)).toNat ⟨(at_ rs (k2:Int)).a,(at_ rs (k2:Int)).c,sortZ (at_ rs (k2:Int)).xs⟩)++I)) (Ea hpR922) ?_
   exact Bj (Aj (Ai (Aw (Gr (Rad rfl rfl) (Gm rfl (Bj (B6 ((k2+1),((List.set rs2 ((k2:Int)).toNat ⟨(at_ rs (k2:Int)).a,(at_ rs (k2:Int)).c,sortZ (at_ rs (k2:Int)).xs⟩))) (by dsimp only;exact ⟨om,(hSI.step om)⟩))))))))
  ·refine Bt (Ak (Ak (A6 (Ai (Ah (Gm rfl (Ga rfl (Af (A2 ?_)))))))))
   have hLR:=hSI.all hG hR2 om
   have hwl:(List.replicate nd.toNat (default:(RowG Int))).length=rs.length:=by have:=hR2.len;omega
   exact A7 rfl rfl (vc 22 (.slice ad2 rs.length cp3) rs::(ownR 3 rs2++I)) (by rw [←hwl];exact Ay) ⟨ad2,cp3,rs,rs2,by rw [←hwl],hLR,rfl⟩
def ClqE(nd:Int)(es:List Pt)(X:List Int):Prop:=X.Pairwise (fun x0 x1=>x0<x1∧edgeP x0 x1∈es)∧∀x∈X,0≤x∧x<nd
def fitP(es:List Pt)(X:List Int)(v:Int):Prop:=∀x∈X,x≠v∧edgeP x v∈es
structure MaxE (nd:Int) (es:List Pt) (X:List Int):Prop where
 clq:ClqE nd es X
 ne:X≠[]
 no:∀v,0≤v→v<nd→¬fitP es X v
def LxS(X Z:List Int):Prop:=∃p x z r s,X=p++x::r∧Z=p++z::s∧x<z
section
variable {nd:Int}{es:List Pt}{X S Y:List Int}{v:Int}
theorem edgeP_comm(u v:Int):edgeP u v=edgeP v u:=by
 unfold edgeP
 rcases Int.lt_trichotomy u v with h|h|h
 ·rw [if_neg om,if_pos h,if_pos h,if_neg om]
 ·subst h;rfl
 ·rw [if_pos h,if_neg om,if_neg om,if_pos h]
theorem ClqE.nil(nd:Int)(es:List Pt):ClqE nd es []:=⟨List.Pairwise.nil,fun x h=>by cases h⟩
theorem ClqE.snoc(h:ClqE nd es S)(hv:0≤v∧v<nd)(hlt:∀x∈S,x<v)(hf:fitP es S v):ClqE nd es (S++[v]):=by
 refine ⟨List.pairwise_append.2 ⟨h.1,by simp,fun a ha b hb=>?_⟩,fun x hx=>?_⟩
 ·rw [List.mem_singleton.1 hb];exact ⟨hlt a ha,(hf a ha).2⟩
 ·rcases List.mem_append.1 hx with hx|hx
  ·exact h.2 x hx
  ·rw [List.mem_singleton.1 hx];exact hv
theorem ClqE.fits(h:ClqE nd es (S++v::Y)):fitP es S v:=fun x hx=>by
 have:=(List.pairwise_append.1 h.1).2.2 x hx v List.mem_cons_self
 exact ⟨by omega,this.2⟩
theorem ClqE.mid(h:ClqE nd es (S++v::Y)):(∀x∈S,x<v)∧(0≤v∧v<nd):=⟨fun x hx=>((List.pairwise_append.1 h.1).2.2 x hx v List.mem_cons_self).1,h.2 v (List.mem_append_right _ List.mem_cons_self)⟩
structure GrowTo (nd:Int) (es:List Pt) (S:List Int) (fm v:Int) (Q:List (List Int)):Prop where
 sound:∀X∈Q,MaxE nd es X∧∃y Y,X=S++y::Y∧fm≤y∧y<v
 all:∀y Y,MaxE nd es (S++y::Y)→fm≤y→y<v→(S++y::Y)∈Q
 asc:Q.Pairwise LxS
 len:(Q.length:Int)+2 ^ (nd - v).toNat≤2 ^ (nd - fm).toNat
theorem GrowTo.start(nd:Int)(es:List Pt)(S:List Int)(fm:Int):GrowTo nd es S fm fm []:=⟨fun X h=>(by cases h),fun y Y _ h1 h2=>om,List.Pairwise.nil,(by simp)⟩
theorem pow_half{n v:Int}(h:v<n):(2:Int) ^ (n - v).toNat=2*2 ^ (n - (v+1)).toNat:=by
 rw [show (n - v).toNat=(n - (v+1)).toNat+1 by omega,Int.pow_succ];omega
theorem pow_pos2(k:Nat):(1:Int)≤2 ^ k:=by
 have:=Int.pow_pos (n:=2) (m:=k) dc;omega
theorem LxS.heads{S Y Y':List Int}{y y':Int}(h:y<y'):LxS (S++y::Y) (S++y'::Y'):=⟨S,y,y',Y,Y',rfl,rfl,h⟩
theorem GrowTo.skip{fm:Int}{Q:List (List Int)}(h:GrowTo nd es S fm v Q)(hv:v<nd)(hno:¬fitP es S v):GrowTo nd es S fm (v+1) Q:=by
 have h1:=pow_half hv
 have h2:=pow_pos2 (nd - (v+1)).toNat
 refine ⟨fun X hX=>?_,fun y Y hM h3 h4=>?_,h.asc,by have:=h.len;omega⟩
 ·obtain ⟨a,y,Y,e,b,c⟩:=h.sound X hX
  exact ⟨a,y,Y,e,b,by omega⟩
 ·by_cases e:y=v
  ·subst e;exact absurd hM.clq.fits hno
  ·exact h.all y Y hM h3 om
theorem GrowTo.one{fm:Int}{Q:List (List Int)}(h:GrowTo nd es S fm v Q)(hv:v<nd)(hfm:fm≤v)(hM:MaxE nd es (S++[v])):GrowTo nd es S fm (v+1) (Q++[S++[v]]):=by
 have h1:=pow_half hv
 have h2:=pow_pos2 (nd - (v+1)).toNat
 refine ⟨fun X hX=>?_,fun y Y hM2 h3 h4=>?_,?_,by have:=h.len;rw [List.length_append,List.length_singleton];push_cast;omega⟩
 ·rcases List.mem_append.1 hX with hX|hX
  ·obtain ⟨a,y,Y,e,b,c⟩:=h.sound X hX
   exact ⟨a,y,Y,e,b,by omega⟩
  ·rw [List.mem_singleton.1 hX];exact ⟨hM,v,[],rfl,hfm,by omega⟩
 ·by_cases e:y=v
  ·subst e
   cases Y with
   |nil=>exact List.mem_append_right _ List.mem_cons_self
   |cons z Z=>
    exfalso
    have hc:ClqE nd es ((S++[y])++z::Z):=by rw [List.append_assoc];exact hM2.clq
    exact hM.no z hc.mid.2.1 hc.mid.2.2 hc.fits
  ·exact List.mem_append_left _ (h.all y Y hM2 h3 om)
 ·refine List.pairwise_append.2 ⟨h.asc,by simp,fun X hX Z hZ=>?_⟩
  obtain ⟨_,y,Y,rfl,_,c⟩:=h.sound X hX
  rw [List.mem_singleton.1 hZ];exact LxS.heads c
theorem GrowTo.more{fm:Int}{Q R:List (List Int)}(h:GrowTo nd es S fm v Q)(hv:v<nd)(hfm:fm≤v)(hno:¬MaxE nd es (S++[v]))(hR:GrowTo nd es (S++[v]) (v+1) nd R):GrowTo nd es S fm (v+1) (Q++R):=by
 have h1:=pow_half hv
 have h2:=pow_pos2 (nd - (v+1)).toNat
 refine ⟨fun X hX=>?_,fun y Y hM2 h3 h4=>?_,?_,?_⟩
 ·rcases List.mem_append.1 hX with hX|hX
  ·obtain ⟨a,y,Y,e,b,c⟩:=h.sound X hX
   exact ⟨a,y,Y,e,b,by omega⟩
  ·obtain ⟨a,y,Y,e,b,c⟩:=hR.sound X hX
   exact ⟨a,v,y::Y,by rw [e,List.append_assoc];rfl,hfm,by omega⟩
 ·by_cases e:y=v
  ·subst e
   cases Y with
   |nil=>exact absurd hM2 hno
   |cons z Z=>
    have e2:S++y::z::Z=(S++[y])++z::Z:=by rw [List.append_assoc];rfl
    rw [e2] at hM2 ⊢
    have hz:=hM2.clq.mid
    exact List.mem_append_right _ (hR.all z Z hM2 (by have:=hz.1 y (by simp);omega) hz.2.2)
  ·exact List.mem_append_left _ (h.all y Y hM2 h3 om)
 ·refine List.pairwise_append.2 ⟨h.asc,hR.asc,fun X hX Z hZ=>?_⟩
  obtain ⟨_,y,Y,rfl,_,c⟩:=h.sound X hX
  obtain ⟨_,z,Z',e,_,_⟩:=hR.sound Z hZ
  rw [e,List.append_assoc];exact LxS.heads c
 ·have a:=h.len
  have b:=hR.len
  rw [show (nd - nd).toNat=0 by omega,Int.pow_zero] at b
  rw [List.length_append];push_cast;omega
structure PickL (Q:List (List Int)) (k:Nat) (out:List Int):Prop where
 le:∀i:Nat,i<k→(at_ Q (i:Int)).length≤out.length
 real:out=[]∨∃i:Nat,i<k∧out=at_ Q (i:Int)∧∀j:Nat,j<i→(at_ Q (j:Int)).length<out.length
theorem PickL.start(Q:List (List Int)):PickL Q 0 []:=⟨fun i h=>by omega,.inl rfl⟩
theorem PickL.keep{Q:List (List Int)}{k:Nat}{out:List Int}(h:PickL Q k out)(hc:(at_ Q (k:Int)).length≤out.length):PickL Q (k+1) out:=by
 refine ⟨fun i hi=>?_,h.real.imp id fun ⟨i,a,b⟩=>⟨i,by omega,b⟩⟩
 by_cases e:i=k
 ·subst e;exact hc
 ·exact h.le i om
theorem PickL.take{Q:List (List Int)}{k:Nat}{out:List Int}(h:PickL Q k out)(hc:out.length<(at_ Q (k:Int)).length):PickL Q (k+1) (at_ Q (k:Int)):=by
 refine ⟨fun i hi=>?_,.inr ⟨k,by omega,rfl,fun j hj=>by have:=h.le j hj;omega⟩⟩
 by_cases e:i=k
 ·subst e;exact Nat.le_refl _
 ·have:=h.le i om;omega
theorem adj_edge(hG:GrOk nd es){a b:Int}(ha:0≤a∧a<nd)(hab:a<b):b∈listB (at_ (rowsB nd es) a)↔edgeP a b∈es:=by
 rw [hG.rows.mem ha.1 ha.2]
 have e:edgeP a b=⟨a,b⟩:=by unfold edgeP;rw [if_neg om,if_pos hab]
 rw [e]
 have hr:=hG.rng
 constructor
 ·rintro ⟨_,h|h⟩
  ·exact h
  ·have:=hG.edge _ h;simp only at this;omega
 ·intro h
  have:=hG.edge _ h
  simp only at this
  exact ⟨by omega,.inl h⟩
theorem clq_iff(hG:GrOk nd es){X:List Int}:ClqIn (rowsB nd es) (allB nd) X↔ClqE nd es X:=by
 have hr:=hG.rng
 have hall:∀x,x∈listB (allB nd)↔0≤x∧x<nd:=fun x=>by
  constructor
  ·intro h;exact ⟨(listB_lt h).1,all_sub hr.1 hr.2 x h⟩
  ·intro h
   refine mem_listB.2 ⟨h.1,?_⟩
   rw [getLsb_allB hr.1 hr.2 om,decide_eq_true_eq];omega
 constructor
 ·intro h
  have hx:∀x∈X,0≤x∧x<nd:=fun x hx=>(hall x).1 (h.sub x hx)
  refine ⟨?_,hx⟩
  refine List.Pairwise.imp_of_mem (fun {a b} ha hb h=>?_) h.clq
  exact ⟨h.1,(adj_edge hG (hx a ha) h.1).1 h.2⟩
 ·intro h
  refine ⟨?_,fun x hx=>(hall x).2 (h.2 x hx)⟩
  refine List.Pairwise.imp_of_mem (fun {a b} ha hb hh=>?_) h.1
  exact ⟨hh.1,(adj_edge hG (h.2 a ha) hh.1).2 hh.2⟩
theorem ClqE.pair(h:ClqE nd es X){a b:Int}(ha:a∈X)(hb:b∈X)(hlt:a<b):edgeP a b∈es:=by
 obtain ⟨i,hi,rfl⟩:=List.getElem_of_mem ha
 obtain ⟨j,hj,rfl⟩:=List.getElem_of_mem hb
 rcases Nat.lt_trichotomy i j with h1|h1|h1
 ·exact ((List.pairwise_iff_getElem.1 h.1) i j hi hj h1).2
 ·subst h1;omega
 ·have:=((List.pairwise_iff_getElem.1 h.1) j i hj hi h1).1;omega
theorem ClqE.add(h:ClqE nd es X)(hv:0≤v∧v<nd)(hf:fitP es X v):ClqE nd es (ofL (X++[v]))∧(ofL (X++[v])).length=X.length+1:=by
 have hm:∀x,x∈ofL (X++[v])↔x∈X∨x=v:=fun x=>by rw [mem_ofL,List.mem_append,List.mem_singleton]
 refine ⟨⟨?_,fun x hx=>?_⟩,?_⟩
 ·refine List.Pairwise.imp_of_mem (fun {a b} ha hb hab=>⟨hab,?_⟩) (ofL_asc _)
  rcases (hm a).1 ha with h1|h1<;>rcases (hm b).1 hb with h2|h2
  ·exact h.pair h1 h2 hab
  ·rw [h2];exact (hf a h1).2
  ·rw [h1,edgeP_comm];exact (hf b h2).2
  ·omega
 ·rcases (hm x).1 hx with h1|h1
  ·exact h.2 x h1
  ·rw [h1];exact hv
 ·have hn:v∉X:=fun hx=>(hf v hx).1 rfl
  have hp:(ofL (X++[v])).Perm (v::X):=(List.perm_ext_iff_of_nodup ((ofL_asc _).imp fun h=>by omega) (List.nodup_cons.2 ⟨hn,h.1.imp fun h=>by have:=h.1;omega⟩)).2 fun x=>by rw [hm,List.mem_cons];exact or_comm
  rw [hp.length_eq,List.length_cons]
theorem ClqE.len(h:ClqE nd es X):X.length≤nd.toNat:=by
 have hs:∀x∈X,x∈(List.range nd.toNat).map fun (i:Nat)=>(i:Int):=fun x hx=>by
  have:=h.2 x hx
  exact List.mem_map.2 ⟨x.toNat,List.mem_range.2 om,by omega⟩
 have:=List.Nodup.length_le_of_subset (h.1.imp fun h=>by have:=h.1;omega:X.Nodup) hs
 rwa [List.length_map,List.length_range] at this
theorem clq_ext:∀(n:Nat) {X:List Int},ClqE nd es X→X≠[]→nd.toNat - X.length≤n→∃Z,MaxE nd es Z∧X.length≤Z.length∧(X.length=Z.length→X=Z):=fun n=>by
 induction n with
 |zero=>
  intro X hX hne hn
  refine ⟨X,⟨hX,hne,fun v h0 h1 hf=>?_⟩,Nat.le_refl _,fun _=>rfl⟩
  obtain ⟨h2,h3⟩:=hX.add ⟨h0,h1⟩ hf
  have:=h2.len;omega
 |succ n ih=>
  intro X hX hne hn
  by_cases hM:MaxE nd es X
  ·exact ⟨X,hM,Nat.le_refl _,fun _=>rfl⟩
  ·have:∃v,(0≤v∧v<nd)∧fitP es X v:=Classical.byContradiction fun hh=>hM ⟨hX,hne,fun v h0 h1 hf=>hh ⟨v,⟨h0,h1⟩,hf⟩⟩
   obtain ⟨v,hv,hf⟩:=this
   obtain ⟨h2,h3⟩:=hX.add hv hf
   obtain ⟨Z,hZ,hl,_⟩:=ih h2 (fun e=>by rw [e] at h3;simp at h3) om
   exact ⟨Z,hZ,by omega,fun e=>by omega⟩
theorem pick_best(hG:GrOk nd es){Q:List (List Int)}{out:List Int}(hQ:GrowTo nd es [] 0 nd Q)(hP:PickL Q Q.length out):bestCl nd es out:=by
 have hcl:∀X:List Int,ClqE nd es X→X≠[]→∃Z,MaxE nd es Z∧X.length≤Z.length∧(X.length=Z.length→X=Z):=fun X hX hne=>clq_ext _ hX hne (Nat.le_refl _)
 have hin:∀Z,MaxE nd es Z→∃i:Nat,i<Q.length∧at_ Q (i:Int)=Z:=fun Z hZ=>by
  cases Z with
  |nil=>exact absurd rfl hZ.ne
  |cons z Z=>
   have hr:=hZ.clq.2 z List.mem_cons_self
   obtain ⟨i,hi,e⟩:=mem_at (hQ.all z Z hZ hr.1 hr.2)
   exact ⟨i,hi,e.symm▸rfl⟩
 have hmax:∀X,ClqE nd es X→X.length≤out.length:=fun X hX=>by
  by_cases e:X=[]
  ·subst e;simp
  ·obtain ⟨Z,hZ,hl,_⟩:=hcl X hX e
   obtain ⟨i,hi,e2⟩:=hin Z hZ
   have:=hP.le i hi
   rw [e2] at this;omega
 have hout:ClqE nd es out:=by
  rcases hP.real with e|⟨i,hi,e,_⟩
  ·rw [e];exact ClqE.nil _ _
  ·rw [e];exact (hQ.sound _ (Ck om om)).1.clq
 refine ⟨(clq_iff hG).2 hout,fun Z hZ=>hmax Z ((clq_iff hG).1 hZ),fun Z hZ hl=>?_⟩
 have hZE:=(clq_iff hG).1 hZ
 by_cases e:Z=[]
 ·rw [e] at hl ⊢
  rw [List.length_eq_zero_iff.1 hl.symm];exact .inl rfl
 ·obtain ⟨Z',hZ',hl',hz⟩:=hcl Z hZE e
  have hm:=hmax Z' hZ'.clq
  have e3:Z=Z':=hz om
  rw [←e3] at hZ'
  obtain ⟨j,hj,ej⟩:=hin Z hZ'
  rcases hP.real with e0|⟨i,hi,ei,hlt⟩
  ·rw [e0] at hl;exact absurd (List.length_eq_zero_iff.1 hl) e
  ·rcases Nat.lt_trichotomy i j with h1|h1|h1
   ·have hp:=(List.pairwise_iff_getElem.1 hQ.asc) i j hi hj h1
    rw [←D3 _ i hi,←D3 _ j hj,ej,←ei] at hp
    exact .inr hp
   ·subst h1;rw [ei,ej];exact .inl rfl
   ·have:=hlt j h1
    rw [ej] at this;omega
end
end Go.Sl
