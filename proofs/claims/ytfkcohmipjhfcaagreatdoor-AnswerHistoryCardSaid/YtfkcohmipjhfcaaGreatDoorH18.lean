/- A part of the proofs of statements of this seat: contracts of functions, and the plain laws that they lean on. No conditions. -/
import Derived.Test.YtfkcohmipjhfcaaGreatDoorH17
set_option linter.unusedVariables false
set_option linter.unusedSimpArgs false
set_option linter.unusedSectionVars false
namespace Go.Sl
open Go.Proofs
set_option maxRecDepth 4000
variable {κ:Ctx}{I:List Item}
theorem mkF_mul{a b:Int}(h0:0≤a)(h1:0<b):(mkF a b).den*a=(mkF a b).num*b:=by
 have hg:=gcdI_pos (a:=a) h1
 have d1:gcdI a b ∣ a:=by
  obtain ⟨x,hx⟩:=Nat.gcd_dvd_left a.toNat b.toNat
  exact ⟨(x:Int),by unfold gcdI;rw [←Int.natCast_mul,←hx];omega⟩
 have d2:gcdI a b ∣ b:=by
  obtain ⟨x,hx⟩:=Nat.gcd_dvd_right a.toNat b.toNat
  exact ⟨(x:Int),by unfold gcdI;rw [←Int.natCast_mul,←hx];omega⟩
 show b / gcdI a b*a=a / gcdI a b*b
 generalize gcdI a b=g at hg d1 d2
 obtain ⟨x,rfl⟩:=d1
 obtain ⟨y,rfl⟩:=d2
 rw [Int.mul_ediv_cancel_left _ om,Int.mul_ediv_cancel_left _ om]
 rw [←Int.mul_assoc,←Int.mul_assoc,Int.mul_comm y g,Int.mul_comm x g,Int.mul_assoc,Int.mul_assoc,Int.mul_comm y x]
theorem mul_rng{x y m n:Int}(hx:0≤x∧x≤m)(hy:0≤y∧y≤n):0≤x*y∧x*y≤m*n:=⟨Int.mul_nonneg hx.1 hy.1,Int.mul_le_mul hx.2 hy.2 hy.1 om⟩
theorem cntB_le(W:BitVec 64):0≤cntB W∧cntB W≤64:=by
 have:=Ey W
 unfold cntB;omega
theorem edges_le{nd:Int}{es:List Pt}(hG:GrOk nd es):es.length≤2016:=by
 have hs:∀e∈es,e∈(List.range 64).flatMap fun (v:Nat)=>(List.range v).map fun (u:Nat)=>(⟨(u:Int),(v:Int)⟩:Pt):=fun e he=>by
  have h:=hG.edge e he
  have hr:=hG.rng
  refine List.mem_flatMap.2 ⟨e.v.toNat,List.mem_range.2 om,List.mem_map.2 ⟨e.u.toNat,List.mem_range.2 om,?_⟩⟩
  rw [Pt.ext_iff']
  exact ⟨by show ((e.u.toNat:Nat):Int)=e.u;omega,by show ((e.v.toNat:Nat):Int)=e.v;omega⟩
 have hl:=List.Nodup.length_le_of_subset (asc_nodup hG.asc) hs
 have e:((List.range 64).flatMap fun (v:Nat)=>(List.range v).map fun (u:Nat)=>(⟨(u:Int),(v:Int)⟩:Pt)).length=2016:=by
  rw [List.length_flatMap]
  simp only [List.length_map,List.length_range]
  decide+kernel
 omega
structure DensR (nd:Int) (es:List Pt) (N D:Int) (B:BitVec 64):Prop where
 dens:DensP nd N D es B
 num:0≤N∧N≤2016
 den:1≤D∧D≤64
 red:∃x y:Int,(0≤x∧x≤2016)∧(1≤y∧y≤64)∧(⟨N,D⟩:Fr)=mkF x y
theorem all_sub{nd:Int}(h0:0≤nd)(h1:nd≤64):subN nd (allB nd):=fun x hx=>by
 have h:=mem_listB.1 hx
 have h2:x.toNat<64:=Classical.byContradiction fun hn=>by rw [BitVec.getLsbD_of_ge _ _ om] at h;cases h.2
 rw [getLsb_allB h0 h1 h2,decide_eq_true_eq] at h
 omega
theorem all_ne{nd:Int}(h0:1≤nd)(h1:nd≤64):allB nd≠0#64:=nz_listB.2 ⟨0,mem_listB.2 ⟨Int.le_refl _,by
 rw [getLsb_allB om h1 dc,decide_eq_true_eq];omega⟩⟩
theorem plainP(m:Nat)(es:List Pt):PlainP (m:Int) es (List.replicate es.length 1) (List.replicate m (default:Int)) (List.replicate m 1) where
 wl:=List.length_replicate
 w1:=fun i hi=>at_rep _ _ _ om om
 bl:=by rw [List.length_replicate,Int.toNat_natCast]
 b0:=fun i h0 h1=>by rw [at_rep _ _ _ h0 om];rfl
 cl:=by rw [List.length_replicate,Int.toNat_natCast]
 c1:=fun i h0 h1=>at_rep _ _ _ h0 om
set_option maxHeartbeats 2000000 in
theorem Densest_ok{nd:Int}{ve vw vb vk:Value}{es:List Pt}{ws bs cs:List Int}(hl:Sl κ I ve es)(hw:Sl κ I vw ws)(hb:Sl κ I vb bs)(hkc:Sl κ I vk cs)(hG:GrOk nd es)(hm:es.length≤2016)(hP:PlainP nd es ws bs cs)(h1:1≤nd)(hT:TabRd κ I 0 tzCells) :
    CallS Tryz.prog κ 170 [.agg #[ve,vw,vb,vk,U64 (allB nd),U64 (0#64)]] I (fun r J=>∃B a c parts N D,r = .tuple #[.agg #[U64 B,.slice a (parts:List Int).length c],.agg #[I64 N,I64 D]]∧DensR nd es N D B∧parts.length=es.length∧J=vc 3 (.slice a parts.length c) parts::I):=by
 have hrng:=hG.rng
 have hwl:=hP.wl
 have hbl:=hP.bl
 have hcl:=hP.cl
 refine Ce1 Tryz.func170 rfl rfl ?_
 refine Ai (Ge1 (Bd (cs:=[_,_,_,_,_,_]) rfl rfl rfl) fun b1=>Ge1 (A8 ty208 rfl) fun b2=>Ge1 (A8 ty40 rfl) fun b3=>Af (Ai (Gf fld211_4 rfl (Gl ty175 ?_))))
 refine Ga rfl (Af (A4 (Bv (σ:=(BitVec 64)) (fun s=>([(1,.pointer (some ⟨b1,0,none⟩)),(2,.pointer (some ⟨b2,0,none⟩)),(3,.pointer (some ⟨b3,0,none⟩)),(4,U64 (s))]:Env)) (fun s=>blk b3 [I64 (0),I64 (0)] 40::blk b2 [.int .u64 (0),.slice none 0 0] 208::blk b1 [ve,vw,vb,vk,U64 (allB nd),U64 (0#64)] 211::I) (fun s=>(subN nd s)∧(s≠0#64)) (fun s=>8257536 - densM es s) (allB nd) (show (subN nd (allB nd:BitVec 64))∧((allB nd:BitVec 64)≠0#64) from ⟨(all_sub hrng.1 hrng.2),(all_ne h1 hrng.2)⟩) (Aa rfl (Aa rfl (Aa rfl (Aa (Cp rfl (by first|rfl|simp)) Bg)))) (show Fit κ _ (blk b3 [I64 (0),I64 (0)] 40::blk b2 [.int .u64 (0),.slice none 0 0] 208::blk b1 [ve,vw,vb,vk,U64 (allB nd),U64 (0#64)] 211::I) from A5) ?_)))
 rintro wb hp
 obtain ⟨hW,hne⟩:=hp
 have hmle:=densM_le hm hne
 have hib:=insE_bd wb es
 have hcb:=cntB_pos hne
 refine A4 (Ai (Gl6 ty211 ?_))
 refine Gm rfl (G.e (Ap call232 rfl rfl (Gain_ok (Bj hl) (Bj hw) (Bj hb) (Bj hkc) hG hm hP wb (by first|exact hW|exact hS.sub) (B9 hT A0))) ?_)
 rintro _ _ ⟨_,_,⟨rfl,rfl⟩,rfl,rfl⟩
 refine Gm rfl (Gr (A2 rfl rfl) (Gr (A2 rfl rfl) (Ga rfl (Ga rfl (Af (Ai (Gm rfl (Gm rfl (Gc0 (Ap call220 rfl rfl (MakeF_ok (insE wb es) (cntB wb) om om)) ?_)))))))))
 refine Gm rfl ?_
 have hn1:=mkF_num (a:=insE wb es) (b:=cntB wb) om om
 have hd1:=mkF_den (a:=insE wb es) (b:=cntB wb) om
 have hmul:=mkF_mul (a:=insE wb es) (b:=cntB wb) om om
 have hred:(⟨(mkF (insE wb es) (cntB wb)).num,(mkF (insE wb es) (cntB wb)).den⟩:Fr)=mkF (insE wb es) (cntB wb):=rfl
 generalize (mkF (insE wb es) (cntB wb)).num=Nn at hn1 hmul hred ⊢
 generalize (mkF (insE wb es) (cntB wb)).den=Dd at hd1 hmul hred ⊢
 refine Gr (A2 rfl rfl) (Gr (A2 rfl rfl) (Ge1 (A8 ty40 rfl) fun b4=>Ge0 (Ce ty40) ?_))
 refine Ga rfl (Af (Ar (S4 7 1 2 3 rfl rfl rfl rfl) (Ai (Gl6 ty211 ?_))))
 refine Gl2 ty40 ?_
 refine G.e (Ap call233 rfl rfl (Solve_ok (Bj hl) (Bj hw) (Bj hb) (Bj hkc) hG hm hP (nu:=Nn) (de:=Dd) om om)) ?_
 rintro _ _ ⟨_,_,⟨Bn,pa,pc,parts,rfl,hS,hpl,rfl⟩,rfl,rfl⟩
 have hib2:=insE_bd Bn es
 have hcb2:=cntB_le Bn
 refine Ge1 (A8 ty208 rfl) fun b5=>Ge0 (Ce ty208) ?_
 refine Af (Ai (Gl6 ty211 ?_))
 refine Gf fld208_0 rfl (Gl ty175 ?_)
 refine G.e (Ap call232 rfl rfl (Gain_ok (Bj hl) (Bj hw) (Bj hb) (Bj hkc) hG hm hP Bn (by first|exact hW|exact hS.sub) (B9 hT A0))) ?_
 rintro _ _ ⟨_,_,⟨rfl,rfl⟩,rfl,rfl⟩
 refine Gm rfl (Gr (A2 rfl rfl) (Gr (A2 rfl rfl) (Ga rfl (Ga rfl (Af (Ar (S7 6 5 9 7 1 2 3 rfl rfl rfl rfl rfl rfl rfl) (Au (Ai (Gm rfl (Gf fld40_1 rfl (Gl ty3 ?_)))))))))))
 refine Gr (E4 rfl rfl (by unfold InR;first|omega|(have hp1:=mul_rng (x:=insE Bn es) (y:=Dd) (m:=2016) (n:=64) om om;have hp2:=mul_rng (x:=Nn) (y:=cntB Bn) (m:=2016) (n:=64) om om;omega))) (Gf fld40_0 rfl (Gl ty3 ?_))
 refine Gm rfl (Gr (E4 rfl rfl (by unfold InR;first|omega|(have hp1:=mul_rng (x:=insE Bn es) (y:=Dd) (m:=2016) (n:=64) om om;have hp2:=mul_rng (x:=Nn) (y:=cntB Bn) (m:=2016) (n:=64) om om;omega))) (Gr (Dt rfl rfl) (Af (Ar (S6 42 9 7 1 2 3 rfl rfl rfl rfl rfl rfl) (A7 rfl (fun c42=>?_) (fun c42=>?_))))))
 ·refine Au (Bk mixed (Bo (blk b5 [U64 (Bn),.slice pa parts.length pc] 208::vc 3 (.slice pa parts.length pc) (parts)::blk b4 [I64 (Nn),I64 (Dd)] 40::blk b1 [ve,vw,vb,vk,U64 (allB nd),U64 (0#64)] 211::I) 2 (Dr 0 rfl (Bq (vs:=[_,_]) ty208) ?_)))
  refine Dq (rs:=[1,2]) kr rfl rfl (Ej ?_ (Ew ?_))
  ·refine Sr rfl (Bq (vs:=[_,_]) ty40) A5 ?_
   refine Dc kr ?_
   refine Ae 2 rfl (Ce ty208) ?_
   rintro _ _ ⟨rfl,rfl⟩
   refine Ae 3 rfl (Ce ty40) ?_
   rintro _ _ ⟨rfl,rfl⟩
   refine De kr ?_
   refine Aj (Ax (Ah (Av (Ah (Av ?_)))))
   have hdn:=hS.done hW hne hmul c42
   exact V.retcc rfl ty208 ty40 rfl rfl mm mm rfl rfl (vc 3 (.slice pa parts.length pc) parts::I) Bt ⟨Bn,pa,pc,parts,Nn,Dd,rfl,⟨hdn,by omega,by omega,_,_,by omega,by omega,hred⟩,hpl,rfl⟩
  ·refine Se0 rfl (Ce ty208) ?_
   refine Ds1 1 (Sr rfl (Bq (vs:=[_,_]) ty40) A5 ?_)
   refine Ds1 3 (Se0 rfl (Ce ty40) ?_)
   refine Dz (Aj (Ax (Ah (Av (Ah (Av ?_))))))
   have hdn:=hS.done hW hne hmul c42
   exact V.retcc rfl ty208 ty40 rfl rfl mm mm rfl rfl (vc 3 (.slice pa parts.length pc) parts::I) Bt ⟨Bn,pa,pc,parts,Nn,Dd,rfl,⟨hdn,by omega,by omega,_,_,by omega,by omega,hred⟩,hpl,rfl⟩
 ·refine Aw (Aj (Az (Gf fld208_0 rfl (Gl ty175 ?_))))
  refine Ga rfl (Bc (Ak ?_))
  have hneB:Bn≠0#64:=pos_set (nd:=nd) (N:=Nn) (D:=Dd) (es:=es) (by have e:insE Bn es*Dd=Dd*insE Bn es:=Int.mul_comm _ _;omega)
  have hgr:=densM_grow (nd:=nd) (B:=Bn) hne om hmul c42
  have hlB:=densM_le hm hneB
  exact B3 ((Bn)) ⟨hS.sub,hneB⟩
set_option maxHeartbeats 1000000 in
theorem Plain_base{m:Nat}{ea:Option Addr}{ec:Nat}{es:List Pt}(hl:Sl κ I (.slice ea es.length ec) es)(hm:es.length≤2016)(hm64:m≤64) :
    CallS Tryz.prog κ 169 [.agg #[I64 ((m:Int)),.slice ea es.length ec]] I (fun r J=>∃aw cw ab cb ak ck ws bs cs,r = .agg #[.slice ea es.length ec,.slice aw (ws:List Int).length cw,.slice ab (bs:List Int).length cb,.slice ak (cs:List Int).length ck,U64 (allB (m:Int)),U64 0#64]∧PlainP (m:Int) es ws bs cs∧J=vc 3 (.slice ak cs.length ck) cs::vc 3 (.slice aw ws.length cw) ws::vc 3 (.slice ab bs.length cb) bs::I):=by
 refine B4 hl.le fun hmax=>?_
 refine Ce1 Tryz.func169 rfl rfl ?_
 refine Ai (Ge1 (Bd (cs:=[_,_]) rfl rfl rfl) fun b1=>Ge1 (A8 ty211 rfl) fun b2=>Af (Eq (σ:=Nat×(Option Addr)×Nat) (fun s=>([(1,.pointer (some ⟨b1,0,none⟩)),(2,.pointer (some ⟨b2,0,none⟩)),(3,.pointer (some ⟨s.1,0,none⟩))]:Env)) (fun s=>vc 3 (.slice s.2.1 (List.replicate m (default:Int)).length s.2.2) (List.replicate m (default:Int))::blk s.1 [.slice ea es.length ec,.slice none 0 0,.slice s.2.1 (List.replicate m (default:Int)).length s.2.2,.slice none 0 0,U64 (allB (m:Int)),U64 (0#64)] 211::blk b2 [.slice none 0 0,.slice none 0 0,.slice none 0 0,.slice none 0 0,.int .u64 (0),.int .u64 (0)] 211::blk b1 [I64 ((m:Int)),.slice ea es.length ec] 48::I) (fun s=>True) ?_ ?_))
 ·refine Bk mixed (Bo (blk b2 [.slice none 0 0,.slice none 0 0,.slice none 0 0,.slice none 0 0,.int .u64 (0),.int .u64 (0)] 211::blk b1 [I64 ((m:Int)),.slice ea es.length ec] 48::I) 10 (Dr 0 rfl (Ab fld48_1 rfl) (Dr 1 rfl (As ty46) ?_)))
  refine Dr 2 rfl (Ab fld48_0 rfl) (Dr 3 rfl (As ty3) ?_)
  refine Dr 5 rfl (Ab fld48_0 rfl) (Dr 6 rfl (As ty3) ?_)
  refine Dq (rs:=[4,7,9]) kr rfl rfl (Ej ?_ (Ej ?_ (Ew ?_)))
  ·refine Sc0 rfl (Ap call200 rfl rfl (MaskAll_ok (m:Int))) ?_
   refine Dq (rs:=[7,9]) kr rfl rfl (Ej ?_ (Ew ?_))
   ·refine Se2 rfl (Cr (α:=Int) (n:=m) Ac ty3 rfl rfl rfl om om dc rfl) fun ad3 cp4=>?_
    refine Dr 8 rfl (Bl (cells:=[.slice ea es.length ec,.slice none 0 0,.slice ad3 (List.replicate m (default:Int)).length cp4,.slice none 0 0,U64 (allB (m:Int)),.int .u64 (0)]) ty211 Dw pl211 rfl kr) (Ds1 9 (Se1 rfl (A8 ty211 rfl) fun b5=>?_))
    refine Dc kr ?_
    refine Ae 10 rfl (D3 ty211) ?_
    rintro _ _ ⟨rfl,rfl⟩
    refine De kr ?_
    exact Dh ((b5),(ad3),(cp4)) trivial
   ·refine Se1 rfl (A8 ty211 rfl) fun b6=>?_
    refine Ds1 7 (Se2 rfl (Cr (α:=Int) (n:=m) Ac ty3 rfl rfl rfl om om dc rfl) fun ad7 cp8=>?_)
    refine Dr 8 rfl (Bl (cells:=[.slice ea es.length ec,.slice none 0 0,.slice ad7 (List.replicate m (default:Int)).length cp8,.slice none 0 0,U64 (allB (m:Int)),.int .u64 (0)]) ty211 Dw pl211 rfl kr) (Dc kr ?_)
    refine Ae 10 rfl (D3 ty211) ?_
    rintro _ _ ⟨rfl,rfl⟩
    refine De kr ?_
    exact Dh ((b6),(ad7),(cp8)) trivial
  ·refine Se2 rfl (Cr (α:=Int) (n:=m) Ac ty3 rfl rfl rfl om om dc rfl) fun ad9 cp10=>?_
   refine Dq (rs:=[4,9]) kr rfl rfl (Ej ?_ (Ew ?_))
   ·refine Sc0 rfl (Ap call200 rfl rfl (MaskAll_ok (m:Int))) ?_
    refine Dr 8 rfl (Bl (cells:=[.slice ea es.length ec,.slice none 0 0,.slice ad9 (List.replicate m (default:Int)).length cp10,.slice none 0 0,U64 (allB (m:Int)),.int .u64 (0)]) ty211 Dw pl211 rfl kr) (Ds1 9 (Se1 rfl (A8 ty211 rfl) fun b11=>?_))
    refine Dc kr ?_
    refine Ae 10 rfl (D3 ty211) ?_
    rintro _ _ ⟨rfl,rfl⟩
    refine De kr ?_
    exact Dh ((b11),(ad9),(cp10)) trivial
   ·refine Se1 rfl (A8 ty211 rfl) fun b12=>?_
    refine Ds1 4 (Sc0 rfl (Ap call200 rfl rfl (MaskAll_ok (m:Int))) ?_)
    refine Dr 8 rfl (Bl (cells:=[.slice ea es.length ec,.slice none 0 0,.slice ad9 (List.replicate m (default:Int)).length cp10,.slice none 0 0,U64 (allB (m:Int)),.int .u64 (0)]) ty211 Dw pl211 rfl kr) (Dc kr ?_)
    refine Ae 10 rfl (D3 ty211) ?_
    rintro _ _ ⟨rfl,rfl⟩
    refine De kr ?_
    exact Dh ((b12),(ad9),(cp10)) trivial
  ·refine Se1 rfl (A8 ty211 rfl) fun b13=>?_
   refine Dq (rs:=[4,7]) kr rfl rfl (Ej ?_ (Ew ?_))
   ·refine Sc0 rfl (Ap call200 rfl rfl (MaskAll_ok (m:Int))) ?_
    refine Ds1 7 (Se2 rfl (Cr (α:=Int) (n:=m) Ac ty3 rfl rfl rfl om om dc rfl) fun ad14 cp15=>?_)
    refine Dr 8 rfl (Bl (cells:=[.slice ea es.length ec,.slice none 0 0,.slice ad14 (List.replicate m (default:Int)).length cp15,.slice none 0 0,U64 (allB (m:Int)),.int .u64 (0)]) ty211 Dw pl211 rfl kr) (Dc kr ?_)
    refine Ae 10 rfl (D3 ty211) ?_
    rintro _ _ ⟨rfl,rfl⟩
    refine De kr ?_
    exact Dh ((b13),(ad14),(cp15)) trivial
   ·refine Se2 rfl (Cr (α:=Int) (n:=m) Ac ty3 rfl rfl rfl om om dc rfl) fun ad16 cp17=>?_
    refine Ds1 4 (Sc0 rfl (Ap call200 rfl rfl (MaskAll_ok (m:Int))) ?_)
    refine Dr 8 rfl (Bl (cells:=[.slice ea es.length ec,.slice none 0 0,.slice ad16 (List.replicate m (default:Int)).length cp17,.slice none 0 0,U64 (allB (m:Int)),.int .u64 (0)]) ty211 Dw pl211 rfl kr) (Dc kr ?_)
    refine Ae 10 rfl (D3 ty211) ?_
    rintro _ _ ⟨rfl,rfl⟩
    refine De kr ?_
    exact Dh ((b13),(ad16),(cp17)) trivial
 ·rintro ⟨pb,ab,cb⟩ hp
  show W Tryz.prog κ 35 _ _ ([(1,.pointer (some ⟨b1,0,none⟩)),(2,.pointer (some ⟨b2,0,none⟩)),(3,.pointer (some ⟨pb,0,none⟩))]:Env) (vc 3 (.slice ab (List.replicate m (default:Int)).length cb) (List.replicate m (default:Int))::blk pb [.slice ea es.length ec,.slice none 0 0,.slice ab (List.replicate m (default:Int)).length cb,.slice none 0 0,U64 (allB (m:Int)),U64 (0#64)] 211::blk b2 [.slice none 0 0,.slice none 0 0,.slice none 0 0,.slice none 0 0,.int .u64 (0),.int .u64 (0)] 211::blk b1 [I64 ((m:Int)),.slice ea es.length ec] 48::I)
  refine Au (Ai (Gf fld48_1 rfl (Gl ty46 ?_)))
  refine Gr (Bp B2 rfl) (Gm rfl (Af (A4 (Bv (σ:=Nat×(Option Addr)×Nat×(List Int)) (fun s=>([(1,.pointer (some ⟨b1,0,none⟩)),(2,.pointer (some ⟨b2,0,none⟩)),(3,.pointer (some ⟨pb,0,none⟩)),(15,I64 (((es.length:Nat):Int))),(16,I64 (((s.1:Nat):Int)))]:Env)) (fun s=>vc 3 (.slice s.2.1 s.2.2.2.length s.2.2.1) (s.2.2.2)::vc 3 (.slice ab (List.replicate m (default:Int)).length cb) (List.replicate m (default:Int))::blk pb [.slice ea es.length ec,.slice s.2.1 s.2.2.2.length s.2.2.1,.slice ab (List.replicate m (default:Int)).length cb,.slice none 0 0,U64 (allB (m:Int)),U64 (0#64)] 211::blk b2 [.slice none 0 0,.slice none 0 0,.slice none 0 0,.slice none 0 0,.int .u64 (0),.int .u64 (0)] 211::blk b1 [I64 ((m:Int)),.slice ea es.length ec] 48::I) (fun s=>(s.1≤es.length)∧(s.2.2.2=List.replicate s.1 1)) (fun s=>es.length - s.1) (0,none,0,[]) (show ((0:Nat)≤es.length)∧(([]:List Int)=List.replicate (0:Nat) 1) from ⟨om,rfl⟩) (Aa rfl (Aa rfl (Aa rfl (Aa rfl (Aa B8 Bg))))) (show Fit κ _ (vc 3 (.slice (none) ([]).length (0)) (([]))::vc 3 (.slice ab (List.replicate m (default:Int)).length cb) (List.replicate m (default:Int))::blk pb [.slice ea es.length ec,.slice (none) ([]).length (0),.slice ab (List.replicate m (default:Int)).length cb,.slice none 0 0,U64 (allB (m:Int)),U64 (0#64)] 211::blk b2 [.slice none 0 0,.slice none 0 0,.slice none 0 0,.slice none 0 0,.int .u64 (0),.int .u64 (0)] 211::blk b1 [I64 ((m:Int)),.slice ea es.length ec] 48::I) from (Bw _ _)) ?_))))
  rintro ⟨k,aw,cw,ws⟩ hp
  dsimp only at hp ⊢
  obtain ⟨hk,hws⟩:=hp
  have hwsl:ws.length=k:=by rw [hws,List.length_replicate]
  refine Ai (Gr (A9 rfl rfl) (Af (Au (A7 rfl (fun c17=>?_) (fun c17=>?_)))))
  ·refine Aw (Aj (Au (A4 (Az (Gf fld211_1 rfl (Gl ty22 ?_))))))
   refine Ge1 (B1 (α:=Int) (cs:=[_]) (xs:=[1]) Ac ty3 rfl rfl dc dc rfl rfl rfl rfl) fun ad18=>?_
   refine Ge2 (B0 (α:=Int) (e:=3) (xs:=ws) (ys:=([1]:List Int)) Ac ty3 rfl rfl rfl mm Bf lcn dc rfl (fun _ _=>am)) fun ad19 cp20=>?_
   refine Gf fld211_1 rfl (Ge0 (Es6_1 ty22) ?_)
   exact Bc (Ak (Aj (Az (Gr (Rad rfl rfl) (Gm rfl (Bc (B3 ((k+1),(ad19),(cp20),(ws++([1]:List Int))) (by dsimp only;exact ⟨om,(by rw [hws,List.replicate_succ'])⟩))))))))
  ·refine Bs (Am (Am (A6 (Aj (Au (Ai (Gf fld48_0 rfl (Gl ty3 ?_))))))))
   refine Gm rfl (Af (A4 (Bv (σ:=Nat×(Option Addr)×Nat×(List Int)) (fun s=>([(2,.pointer (some ⟨b2,0,none⟩)),(3,.pointer (some ⟨pb,0,none⟩)),(25,I64 ((m:Int))),(26,I64 (((s.1:Nat):Int)))]:Env)) (fun s=>vc 3 (.slice s.2.1 s.2.2.2.length s.2.2.1) (s.2.2.2)::vc 3 (.slice aw ws.length cw) (ws)::vc 3 (.slice ab (List.replicate m (default:Int)).length cb) (List.replicate m (default:Int))::blk pb [.slice ea es.length ec,.slice aw ws.length cw,.slice ab (List.replicate m (default:Int)).length cb,.slice s.2.1 s.2.2.2.length s.2.2.1,U64 (allB (m:Int)),U64 (0#64)] 211::blk b2 [.slice none 0 0,.slice none 0 0,.slice none 0 0,.slice none 0 0,.int .u64 (0),.int .u64 (0)] 211::blk b1 [I64 ((m:Int)),.slice ea es.length ec] 48::I) (fun s=>(s.1≤m)∧(s.2.2.2=List.replicate s.1 1)) (fun s=>m - s.1) (0,none,0,[]) (show ((0:Nat)≤m)∧(([]:List Int)=List.replicate (0:Nat) 1) from ⟨om,rfl⟩) (Aa rfl (Aa rfl (Aa rfl (Aa B8 Bg)))) (show Fit κ _ (vc 3 (.slice (none) ([]).length (0)) (([]))::vc 3 (.slice aw ws.length cw) (ws)::vc 3 (.slice ab (List.replicate m (default:Int)).length cb) (List.replicate m (default:Int))::blk pb [.slice ea es.length ec,.slice aw ws.length cw,.slice ab (List.replicate m (default:Int)).length cb,.slice (none) ([]).length (0),U64 (allB (m:Int)),U64 (0#64)] 211::blk b2 [.slice none 0 0,.slice none 0 0,.slice none 0 0,.slice none 0 0,.int .u64 (0),.int .u64 (0)] 211::blk b1 [I64 ((m:Int)),.slice ea es.length ec] 48::I) from (Bw _ _)) ?_)))
   rintro ⟨k2,ak,ck,cs⟩ hp
   dsimp only at hp ⊢
   obtain ⟨hk2,hcs⟩:=hp
   have hcsl:cs.length=k2:=by rw [hcs,List.length_replicate]
   refine Ai (Gr (A9 rfl rfl) (Af (Au (A7 rfl (fun c27=>?_) (fun c27=>?_)))))
   ·refine Aw (Aj (Au (A4 (Az (Gf fld211_3 rfl (Gl ty22 ?_))))))
    refine Ge1 (B1 (α:=Int) (cs:=[_]) (xs:=[1]) Ac ty3 rfl rfl dc dc rfl rfl rfl rfl) fun ad21=>?_
    refine Ge2 (B0 (α:=Int) (e:=3) (xs:=cs) (ys:=([1]:List Int)) Ac ty3 rfl rfl rfl mm Bf lcn dc rfl (fun _ _=>am)) fun ad22 cp23=>?_
    refine Gf fld211_3 rfl (Ge0 (Es6_1 ty22) ?_)
    exact Bc (Ak (Aj (Az (Gr (Rad rfl rfl) (Gm rfl (Bc (B3 ((k2+1),(ad22),(cp23),(cs++([1]:List Int))) (by dsimp only;exact ⟨om,(by rw [hcs,List.replicate_succ'])⟩))))))))
   ·refine Bs (Am (Am (A6 (Aj (Ai (Gl6 ty211 ?_))))))
    refine Ge0 (D3 ty211) ?_
    refine Af (Ax ?_)
    have hP:=plainP m es
    have hws2:ws=List.replicate es.length 1:=by rw [hws,show k=es.length by omega]
    have hcs2:cs=List.replicate m 1:=by rw [hcs,show k2=m by omega]
    exact D1 rfl ty211 rfl mm rfl (vc 3 (.slice ak cs.length ck) cs::vc 3 (.slice aw ws.length cw) ws::vc 3 (.slice ab (List.replicate m (default:Int)).length cb) (List.replicate m (default:Int))::I) Bt ⟨aw,cw,ab,cb,ak,ck,ws,List.replicate m (default:Int),cs,rfl,by rw [hws2,hcs2];exact hP,rfl⟩
theorem Plain_ok{nd:Int}{ea:Option Addr}{ec:Nat}{es:List Pt}(hl:Sl κ I (.slice ea es.length ec) es)(hm:es.length≤2016)(hr:0≤nd∧nd≤64) :
  CallS Tryz.prog κ 169 [.agg #[I64 nd,.slice ea es.length ec]] I fun r J=>∃aw cw ab cb ak ck ws bs cs,r = .agg #[.slice ea es.length ec,.slice aw (ws:List Int).length cw,.slice ab (bs:List Int).length cb,.slice ak (cs:List Int).length ck,U64 (allB nd),U64 0#64]∧PlainP nd es ws bs cs∧J=vc 3 (.slice ak cs.length ck) cs::vc 3 (.slice aw ws.length cw) ws::vc 3 (.slice ab bs.length cb) bs::I:=by
 obtain ⟨m,rfl⟩:=Int.eq_ofNat_of_zero_le hr.1
 exact Plain_base hl hm om
variable {κ:Ctx}{I:List Item}
theorem evmod{s x N:Int}(h1:0≤s)(h2:s<N)(h3:0≤x)(h4:x<N - 1):(0≤Int.tmod (s+1+x) N∧Int.tmod (s+1+x) N<N)∧s≠Int.tmod (s+1+x) N:=by
 rw [Int.tmod_eq_emod_of_nonneg om]
 by_cases h:s+1+x<N
 ·rw [Int.emod_eq_of_lt om h];omega
 ·rw [show s+1+x=(s+1+x - N)+N by omega,Int.add_emod_right,Int.emod_eq_of_lt om om];omega
theorem fit_mk{n kd tm u v w lb sg:Int}(hk:1≤kd∧kd≤3)(ht:0≤tm∧tm≤1048576)(hu:0≤u∧u<n)(hn:n≤64)(hv:kd=3→v=0)(hv2:kd≠3→(0≤v∧v<n)∧u≠v)(hr:kd=1→rightW w lb sg)(hz:kd≠1→w=0∧lb=0∧sg=0):FitOk n ⟨kd,tm,u,v,w,lb,sg⟩:=
 ⟨hk,ht,⟨by show 0≤u∧u<64;omega,hv,fun h=>by have:=hv2 h;show (0≤v∧v<64)∧u≠v;omega⟩,hr,by
  show u<n∧v<n
  by_cases h:kd=3
  ·have:=hv h;omega
  ·have:=hv2 h;omega,hz⟩
structure EvOk (n tt:Int) (es:List Ev):Prop where
 fit:∀e∈es,FitOk n e
 tm:∀e∈es,e.tm≤tt
 asc:∀j:Nat,j<es.length→lastT es j≤(at_ es (j:Int)).tm
theorem EvOk.nil{n tt:Int}:EvOk n tt []:=⟨fun e h=>(by cases h),fun e h=>(by cases h),fun j h=>absurd h (Nat.not_lt_zero _)⟩
theorem EvOk.later{n tt ty:Int}{es:List Ev}(h:EvOk n tt es)(ht:tt≤ty):EvOk n ty es:=⟨h.fit,fun e he=>by have:=h.tm e he;omega,h.asc⟩
theorem EvOk.push{n tt:Int}{es:List Ev}{e:Ev}(h:EvOk n tt es)(hf:FitOk n e)(ht:e.tm=tt):EvOk n tt (es++[e]):=by
 refine ⟨fun x hx=>?_,fun x hx=>?_,fun j hj=>?_⟩
 ·rcases List.mem_append.1 hx with hx|hx
  ·exact h.fit x hx
  ·rw [List.mem_singleton.1 hx];exact hf
 ·rcases List.mem_append.1 hx with hx|hx
  ·exact h.tm x hx
  ·rw [List.mem_singleton.1 hx];omega
 ·have hl:lastT (es++[e]) j=lastT es j:=by
   unfold lastT
   split
   ·rfl
   ·rw [List.length_append,List.length_singleton] at hj
    rw [show (j:Int) - 1=((j - 1:Nat):Int) by omega,D0 es [e] (j - 1) om]
  rw [hl]
  by_cases hje:j<es.length
  ·rw [D0 es [e] j hje];exact h.asc j hje
  ·obtain rfl:j=es.length:=by rw [List.length_append,List.length_singleton] at hj;omega
   rw [at_last,ht]
   unfold lastT
   split
   ·rw [←ht];exact hf.tm.1
   ·rw [show (es.length:Int) - 1=((es.length - 1:Nat):Int) by omega];exact h.tm _ (Cf om om)
theorem EvOk.st{n tt:Int}{es:List Ev}(h:EvOk n tt es)(hn:0≤n∧n≤64)(hl:es.length≤65536):StOk n es:=⟨hn,hl,fun j hj=>h.fit _ (Cf om om),h.asc⟩
theorem streamS_ok{nd:Int}{es:List Ev}(hf:∀j:Nat,j<es.length→FitOk nd (at_ es (j:Int)))(ha:∀j:Nat,j<es.length→lastT es j≤(at_ es (j:Int)).tm):∀m k:Nat,k+m=es.length→streamS nd (lastT es k) (es.drop k)=0
 |0,k,h=>streamS_end om
 |m+1,k,h=>by
  rw [streamS_step om (fitE_ok.2 (hf k om)) (by have:=ha k om;omega)]
  exact streamS_ok hf ha m (k+1) om
set_option maxHeartbeats 2000000 in
theorem MkEvent_base{b:Nat}{lv:Value}{ls:List Int}{i:Int}{n t:Int}(hl:∀q,Sl κ (deck b lv q::I) lv ls)(h0:0≤i)(hn:2≤n∧n≤64)(ht:0≤t∧t≤1000000) :
    CallS Tryz.prog κ 77 [.pointer (some ⟨b,0,none⟩),I64 (n),I64 (t)] (blk b [lv,I64 (i)] 125::I) (fun r J=>∃y:Ev×Int,((r = .agg #[I64 y.1.kd,I64 y.1.tm,I64 y.1.u,I64 y.1.v,I64 y.1.w,I64 y.1.lb,I64 y.1.sg]∧FitOk n y.1∧y.1.tm=t)∧0≤y.2)∧J=[]++deck b lv y.2::I):=by
 refine Ce3 Tryz.func77 rfl rfl ?_
 refine Ai (Ge1 (A8 ty108 rfl) fun b1=>Af (Ai (Gm rfl (Gm rfl (Gm rfl (G.e (Ap call19 rfl rfl (Next_ok (by repeat (first|exact AtF.head _ _|apply AtF.tail)) (B7 (hl _) A0) om om)) ?_))))))
 rintro _ _ ⟨_,_,⟨x2,i3,rfl,hx2,hi3,rfl⟩,rfl,rfl⟩
 show G Tryz.prog κ _ _ _ _ ([(12,I64 (x2)),(11,I64 (n)),(10,.pointer (some ⟨b,0,none⟩)),(9,I64 (t)),(6,.pointer (some ⟨b1,0,none⟩)),(0,.pointer (some ⟨b,0,none⟩)),(1,I64 (n)),(2,I64 (t))]:Env) (blk b1 [I64 (0),I64 (0),I64 (0),I64 (0),I64 (0),I64 (0),I64 (0)] 108::blk b [lv,I64 (i3)] 125::I)
 refine Gr (Bl (cells:=[_,_,_,_,_,_,_]) ty108 C4 pl108 rfl rfl) (Ge1 (A8 ty108 rfl) fun b4=>Ge0 (Es7_7 ty108) ?_)
 refine Af (Eq (σ:=Int×Int) (fun s=>([(0,.pointer (some ⟨b,0,none⟩)),(2,I64 (t)),(6,.pointer (some ⟨b1,0,none⟩)),(7,.pointer (some ⟨b4,0,none⟩))]:Env)) (fun s=>blk b4 [I64 (1),I64 (t),I64 (x2),I64 (s.1),I64 (0),I64 (0),I64 (0)] 108::blk b1 [I64 (0),I64 (0),I64 (0),I64 (0),I64 (0),I64 (0),I64 (0)] 108::blk b [lv,I64 (s.2)] 125::I) (fun s=>((0≤s.1∧s.1<n)∧x2≠s.1)∧(0≤s.2)) ?_ ?_)
 ·refine Bk mixed (Bo (blk b1 [I64 (0),I64 (0),I64 (0),I64 (0),I64 (0),I64 (0),I64 (0)] 108::I) 12 (Dr 0 rfl (Ab fld108_2 rfl) (Dr 3 rfl (Ad rfl) (Dr 4 rfl (Ad rfl) (Dr 5 rfl (Rsu rfl rfl) (Dr 8 rfl (Ad rfl) (Dq (rs:=[1,6]) kr rfl rfl (Ej ?_ (Ew ?_)))))))))
  ·refine Sr rfl (As ty3) A5 ?_
   refine Dr 2 rfl (Rad rfl rfl) (Ds1 6 (Se rfl (Ap call19 rfl rfl (Next_ok (by repeat (first|exact AtF.head _ _|apply AtF.tail)) (B7 (hl _) A0) om om)) ?_))
   rintro _ _ ⟨_,_,⟨x5,i6,rfl,hx5,hi6,rfl⟩,rfl,rfl⟩
   refine ⟨A5,?_⟩
   show D Tryz.prog κ _ _ _ _ _ _ _ ([(20,I64 (x5)),(16,I64 (x2+1)),(15,I64 (x2)),(22,I64 (n)),(19,I64 (n - 1)),(18,I64 (n)),(17,.pointer (some ⟨b,0,none⟩)),(14,.pointer (some ⟨b4,2,none⟩)),(7,.pointer (some ⟨b4,0,none⟩)),(13,.agg #[I64 (1),I64 (t),I64 (x2),I64 (0),I64 (0),I64 (0),I64 (0)]),(12,I64 (x2)),(11,I64 (n)),(10,.pointer (some ⟨b,0,none⟩)),(9,I64 (t)),(6,.pointer (some ⟨b1,0,none⟩)),(0,.pointer (some ⟨b,0,none⟩)),(1,I64 (n)),(2,I64 (t))]:Env) (blk b4 [I64 (1),I64 (t),I64 (x2),I64 (0),I64 (0),I64 (0),I64 (0)] 108::blk b1 [I64 (0),I64 (0),I64 (0),I64 (0),I64 (0),I64 (0),I64 (0)] 108::blk b [lv,I64 (i6)] 125::I)
   refine Dr 7 rfl (Rad rfl rfl) (Dr 9 rfl (Runs.rem rfl rfl om) (Dr 10 rfl (Ab fld108_3 rfl) (Ds1 11 (Se0 rfl (D6 ty3) ?_))))
   refine Dz ?_
   have htm:=evmod (s:=x2) (x:=x5) (N:=n) om om om om
   exact Dh ((Int.tmod ((x2+1)+x5) n),(i6)) (by dsimp only;exact ⟨htm,om⟩)
  ·refine Se rfl (Ap call19 rfl rfl (Next_ok (by repeat (first|exact AtF.head _ _|apply AtF.tail)) (B7 (hl _) A0) om om)) ?_
   rintro _ _ ⟨_,_,⟨x7,i8,rfl,hx7,hi8,rfl⟩,rfl,rfl⟩
   refine ⟨A5,?_⟩
   show D Tryz.prog κ _ _ _ _ _ _ _ ([(20,I64 (x7)),(22,I64 (n)),(19,I64 (n - 1)),(18,I64 (n)),(17,.pointer (some ⟨b,0,none⟩)),(14,.pointer (some ⟨b4,2,none⟩)),(7,.pointer (some ⟨b4,0,none⟩)),(13,.agg #[I64 (1),I64 (t),I64 (x2),I64 (0),I64 (0),I64 (0),I64 (0)]),(12,I64 (x2)),(11,I64 (n)),(10,.pointer (some ⟨b,0,none⟩)),(9,I64 (t)),(6,.pointer (some ⟨b1,0,none⟩)),(0,.pointer (some ⟨b,0,none⟩)),(1,I64 (n)),(2,I64 (t))]:Env) (blk b4 [I64 (1),I64 (t),I64 (x2),I64 (0),I64 (0),I64 (0),I64 (0)] 108::blk b1 [I64 (0),I64 (0),I64 (0),I64 (0),I64 (0),I64 (0),I64 (0)] 108::blk b [lv,I64 (i8)] 125::I)
   refine Ds1 1 (Sr rfl (As ty3) A5 ?_)
   refine Dr 2 rfl (Rad rfl rfl) (Dr 7 rfl (Rad rfl rfl) (Dr 9 rfl (Runs.rem rfl rfl om) (Dr 10 rfl (Ab fld108_3 rfl) (Ds1 11 (Se0 rfl (D6 ty3) ?_)))))
   refine Dz ?_
   have htm:=evmod (s:=x2) (x:=x7) (N:=n) om om om om
   exact Dh ((Int.tmod ((x2+1)+x7) n),(i8)) (by dsimp only;exact ⟨htm,om⟩)
 ·rintro ⟨vv,i9⟩ hp
  obtain ⟨hvv,hi9⟩:((0≤vv∧vv<n)∧x2≠vv)∧(0≤i9):=hp
  show W Tryz.prog κ 56 _ _ ([(0,.pointer (some ⟨b,0,none⟩)),(2,I64 (t)),(6,.pointer (some ⟨b1,0,none⟩)),(7,.pointer (some ⟨b4,0,none⟩))]:Env) (blk b4 [I64 (1),I64 (t),I64 (x2),I64 (vv),I64 (0),I64 (0),I64 (0)] 108::blk b1 [I64 (0),I64 (0),I64 (0),I64 (0),I64 (0),I64 (0),I64 (0)] 108::blk b [lv,I64 (i9)] 125::I)
  refine Au (Ai (Gm rfl (G.e (Ap call19 rfl rfl (Next_ok (by repeat (first|exact AtF.head _ _|apply AtF.tail)) (B7 (hl _) A0) om om)) ?_)))
  rintro _ _ ⟨_,_,⟨x9,i10,rfl,hx9,hi10,rfl⟩,rfl,rfl⟩
  show G Tryz.prog κ _ _ _ _ ([(26,I64 (x9)),(25,.pointer (some ⟨b,0,none⟩)),(0,.pointer (some ⟨b,0,none⟩)),(2,I64 (t)),(6,.pointer (some ⟨b1,0,none⟩)),(7,.pointer (some ⟨b4,0,none⟩))]:Env) (blk b4 [I64 (1),I64 (t),I64 (x2),I64 (vv),I64 (0),I64 (0),I64 (0)] 108::blk b1 [I64 (0),I64 (0),I64 (0),I64 (0),I64 (0),I64 (0),I64 (0)] 108::blk b [lv,I64 (i10)] 125::I)
  refine Ga rfl (Af (A4 (Ai (Gm rfl (Gr (B6 rfl rfl) (Ga rfl (Af (A7 rfl (fun c27=>?_) (fun c27=>?_)))))))))
  ·refine Ai (Gm rfl (Gf fld108_2 rfl (Gl ty3 ?_)))
   refine Gr (Bl (cells:=[_,_,_,_,_,_,_]) ty108 C4 pl108 rfl rfl) (Ge0 (Es7_7 ty108) ?_)
   exact Af (Ar (S1 6 rfl) (Ax (Av (Ah (D1 rfl ty108 rfl mm rfl (blk b [lv,I64 (i10)] 125::I) A5 ⟨(⟨3,t,x2,0,0,0,0⟩,i10),⟨⟨rfl,fit_mk om om om om (fun h=>by omega) (fun h=>by omega) (fun h=>by unfold rightW;omega) (fun h=>by omega),rfl⟩,by show 0≤i10;omega⟩,rfl⟩)))))
  ·refine Ai (Gm rfl (Gr (B6 rfl rfl) (Ga rfl (Af (A7 rfl (fun c34=>?_) (fun c34=>?_))))))
   ·refine Ai (Gm rfl (Gf fld108_2 rfl (Gl ty3 ?_)))
    refine Gf fld108_3 rfl (Gl ty3 ?_)
    refine Gr (Bl (cells:=[_,_,_,_,_,_,_]) ty108 C4 pl108 rfl rfl) (Ge0 (Es7_7 ty108) ?_)
    exact Af (Ar (S1 6 rfl) (Ax (Av (Ah (D1 rfl ty108 rfl mm rfl (blk b [lv,I64 (i10)] 125::I) A5 ⟨(⟨2,t,x2,vv,0,0,0⟩,i10),⟨⟨rfl,fit_mk om om om om (fun h=>by omega) (fun h=>by omega) (fun h=>by unfold rightW;omega) (fun h=>by omega),rfl⟩,by show 0≤i10;omega⟩,rfl⟩)))))
   ·refine Aw (Ak (Aj (Ai (Gm rfl (G.e (Ap call19 rfl rfl (Next_ok (by repeat (first|exact AtF.head _ _|apply AtF.tail)) (B7 (hl _) A0) om om)) ?_)))))
    rintro _ _ ⟨_,_,⟨x11,i12,rfl,hx11,hi12,rfl⟩,rfl,rfl⟩
    show G Tryz.prog κ _ _ _ _ ([(44,I64 (x11)),(43,.pointer (some ⟨b,0,none⟩)),(34,.bool (decide (5≤x9))),(36,.bool (decide (5≤x9))),(35,I64 (x9)),(27,.bool (decide (8≤x9))),(29,.bool (decide (8≤x9))),(28,I64 (x9)),(8,I64 (x9)),(26,I64 (x9)),(25,.pointer (some ⟨b,0,none⟩)),(0,.pointer (some ⟨b,0,none⟩)),(2,I64 (t)),(6,.pointer (some ⟨b1,0,none⟩)),(7,.pointer (some ⟨b4,0,none⟩))]:Env) (blk b4 [I64 (1),I64 (t),I64 (x2),I64 (vv),I64 (0),I64 (0),I64 (0)] 108::blk b1 [I64 (0),I64 (0),I64 (0),I64 (0),I64 (0),I64 (0),I64 (0)] 108::blk b [lv,I64 (i12)] 125::I)
    refine Gr (Rad rfl rfl) (Gm rfl (G.e (Ap call19 rfl rfl (Next_ok (by repeat (first|exact AtF.head _ _|apply AtF.tail)) (B7 (hl _) A0) om om)) ?_))
    rintro _ _ ⟨_,_,⟨x13,i14,rfl,hx13,hi14,rfl⟩,rfl,rfl⟩
    show G Tryz.prog κ _ _ _ _ ([(47,I64 (x13)),(46,.pointer (some ⟨b,0,none⟩)),(45,I64 (1+x11)),(44,I64 (x11)),(43,.pointer (some ⟨b,0,none⟩)),(34,.bool (decide (5≤x9))),(36,.bool (decide (5≤x9))),(35,I64 (x9)),(27,.bool (decide (8≤x9))),(29,.bool (decide (8≤x9))),(28,I64 (x9)),(8,I64 (x9)),(26,I64 (x9)),(25,.pointer (some ⟨b,0,none⟩)),(0,.pointer (some ⟨b,0,none⟩)),(2,I64 (t)),(6,.pointer (some ⟨b1,0,none⟩)),(7,.pointer (some ⟨b4,0,none⟩))]:Env) (blk b4 [I64 (1),I64 (t),I64 (x2),I64 (vv),I64 (0),I64 (0),I64 (0)] 108::blk b1 [I64 (0),I64 (0),I64 (0),I64 (0),I64 (0),I64 (0),I64 (0)] 108::blk b [lv,I64 (i14)] 125::I)
    refine Gm rfl (G.e (Ap call19 rfl rfl (Next_ok (by repeat (first|exact AtF.head _ _|apply AtF.tail)) (B7 (hl _) A0) om om)) ?_)
    rintro _ _ ⟨_,_,⟨x15,i16,rfl,hx15,hi16,rfl⟩,rfl,rfl⟩
    show G Tryz.prog κ _ _ _ _ ([(49,I64 (x15)),(48,.pointer (some ⟨b,0,none⟩)),(47,I64 (x13)),(46,.pointer (some ⟨b,0,none⟩)),(45,I64 (1+x11)),(44,I64 (x11)),(43,.pointer (some ⟨b,0,none⟩)),(34,.bool (decide (5≤x9))),(36,.bool (decide (5≤x9))),(35,I64 (x9)),(27,.bool (decide (8≤x9))),(29,.bool (decide (8≤x9))),(28,I64 (x9)),(8,I64 (x9)),(26,I64 (x9)),(25,.pointer (some ⟨b,0,none⟩)),(0,.pointer (some ⟨b,0,none⟩)),(2,I64 (t)),(6,.pointer (some ⟨b1,0,none⟩)),(7,.pointer (some ⟨b4,0,none⟩))]:Env) (blk b4 [I64 (1),I64 (t),I64 (x2),I64 (vv),I64 (0),I64 (0),I64 (0)] 108::blk b1 [I64 (0),I64 (0),I64 (0),I64 (0),I64 (0),I64 (0),I64 (0)] 108::blk b [lv,I64 (i16)] 125::I)
    refine Gr (E4 rfl rfl (by unfold InR;omega)) (Gr (Rsu rfl rfl) (Gf fld108_4 rfl (Ge0 (D6 ty3) ?_)))
    refine Gf fld108_5 rfl (Ge0 (D6 ty3) ?_)
    refine Gf fld108_6 rfl (Ge0 (D6 ty3) ?_)
    refine Af (Ar (S2 6 7 rfl rfl) (Ai (Gl7 ty108 ?_)))
    refine Ge0 (Es7_7 ty108) ?_
    exact Af (Ax (D1 rfl ty108 rfl mm rfl (blk b [lv,I64 (i16)] 125::I) A5 ⟨(⟨1,t,x2,vv,1+x11,x13,1 - (2*x15)⟩,i16),⟨⟨rfl,fit_mk om om om om (fun h=>by omega) (fun h=>by omega) (fun h=>by unfold rightW;omega) (fun h=>by omega),rfl⟩,by show 0≤i16;omega⟩,rfl⟩))
theorem MkEvent_at{F:Item→List Item}{b:Nat}{lv:Value}{ls:List Int}{i:Int}{n t:Int}(hat:AtF I (deck b lv i) F)(hl:∀q,Sl κ (F (deck b lv q)) lv ls)(h0:0≤i)(hn:2≤n∧n≤64)(ht:0≤t∧t≤1000000) :
  CallS Tryz.prog κ 77 [.pointer (some ⟨b,0,none⟩),I64 (n),I64 (t)] I fun r J=>∃y:Ev×Int,((r = .agg #[I64 y.1.kd,I64 y.1.tm,I64 y.1.u,I64 y.1.v,I64 y.1.w,I64 y.1.lb,I64 y.1.sg]∧FitOk n y.1∧y.1.tm=t)∧0≤y.2)∧J=[]++F (deck b lv y.2):=
 Eg (Post:=fun r (y:Ev×Int)=>(r = .agg #[I64 y.1.kd,I64 y.1.tm,I64 y.1.u,I64 y.1.v,I64 y.1.w,I64 y.1.lb,I64 y.1.sg]∧FitOk n y.1∧y.1.tm=t)∧0≤y.2) (Z:=fun y:Ev×Int=>[]) (X:=fun y:Ev×Int=>deck b lv y.2) hat fun J _ hF=>MkEvent_base (fun q=>(hl q).fit (hF _)) h0  hn ht
set_option maxHeartbeats 2000000 in
theorem MkEvents_base{b:Nat}{lv:Value}{ls:List Int}{i:Int}{n most:Int}(hl:∀q,Sl κ (deck b lv q::I) lv ls)(h0:0≤i)(hn:2≤n∧n≤64)(hm:0≤most∧most≤20) :
    CallS Tryz.prog κ 20 [.pointer (some ⟨b,0,none⟩),I64 (n),I64 (most)] (blk b [lv,I64 (i)] 125::I) (fun r J=>∃y:(Option Addr)×Nat×(List Ev)×Int,((r = .slice y.1 y.2.2.1.length y.2.1∧(EvOk n 500 y.2.2.1∧(y.2.2.1.length:Int)≤most))∧0≤y.2.2.2)∧J=[vc 108 (.slice y.1 y.2.2.1.length y.2.1) y.2.2.1]++deck b lv y.2.2.2::I):=by
 refine Ce3 Tryz.func20 rfl rfl ?_
 refine Ai (Ga rfl (Af (Ai (Ga rfl (Af (Ai (Gm rfl (G.e (Ap call19 rfl rfl (Next_ok (by repeat (first|exact AtF.head _ _|apply AtF.tail)) (B7 (hl _) A0) om om)) ?_))))))))
 rintro _ _ ⟨_,_,⟨x1,i2,rfl,hx1,hi2,rfl⟩,rfl,rfl⟩
 show G Tryz.prog κ _ _ _ _ ([(11,I64 (x1)),(10,.pointer (some ⟨b,0,none⟩)),(7,.slice none 0 0),(6,.slice none 0 0),(0,.pointer (some ⟨b,0,none⟩)),(1,I64 (n)),(2,I64 (most))]:Env) (blk b [lv,I64 (i2)] 125::I)
 refine Ga rfl (Af (Au (Ai (Gm rfl (Gm rfl (Gr (Rad rfl rfl) (G.e (Ap call19 rfl rfl (Next_ok (by repeat (first|exact AtF.head _ _|apply AtF.tail)) (B7 (hl _) A0) om om)) ?_)))))))
 rintro _ _ ⟨_,_,⟨x3,i4,rfl,hx3,hi4,rfl⟩,rfl,rfl⟩
 show G Tryz.prog κ _ _ _ _ ([(15,I64 (x3)),(14,I64 (most+1)),(13,I64 (most)),(12,.pointer (some ⟨b,0,none⟩)),(8,I64 (x1)),(11,I64 (x1)),(10,.pointer (some ⟨b,0,none⟩)),(7,.slice none 0 0),(6,.slice none 0 0),(0,.pointer (some ⟨b,0,none⟩)),(1,I64 (n)),(2,I64 (most))]:Env) (blk b [lv,I64 (i4)] 125::I)
 refine Ga rfl (Af (A4 (Bv (σ:=Int×Int×(Option Addr)×Nat×(List Ev)×Int) (fun s=>([(0,.pointer (some ⟨b,0,none⟩)),(1,I64 (n)),(7,.slice s.2.2.1 s.2.2.2.2.1.length s.2.2.2.1),(8,I64 (s.2.2.2.2.2)),(9,I64 (s.1))]:Env)) (fun s=>vc 108 (.slice s.2.2.1 s.2.2.2.2.1.length s.2.2.2.1) (s.2.2.2.2.1)::blk b [lv,I64 (s.2.1)] 125::I) (fun s=>(0≤s.1∧(s.2.2.2.2.1.length:Int)+s.1≤most)∧(0≤s.2.1)∧(EvOk n s.2.2.2.2.2 s.2.2.2.2.1)∧(0≤s.2.2.2.2.2∧s.2.2.2.2.2≤3+3*(s.2.2.2.2.1.length:Int))) (fun s=>s.1.toNat) (x3,i4,none,0,[],x1) (show (0≤(x3:Int)∧(([]:List Ev).length:Int)+(x3:Int)≤most)∧(0≤(i4:Int))∧(EvOk n (x1:Int) ([]:List Ev))∧(0≤(x1:Int)∧(x1:Int)≤3+3*(([]:List Ev).length:Int)) from ⟨(by simp only [List.length_nil];omega),om,EvOk.nil,(by simp only [List.length_nil];omega)⟩) (Aa rfl (Aa rfl (Aa (Cp rfl (by first|rfl|simp)) (Aa B8 (Aa B8 Bg))))) (show Fit κ _ (vc 108 (.slice (none) ([]).length (0)) (([]))::blk b [lv,I64 ((i4))] 125::I) from (Bw _ _)) ?_)))
 rintro ⟨kq,iqa,a1,c1,out,tt⟩ hp
 dsimp only at hp ⊢
 obtain ⟨hkq,hiqa,hE,htt⟩:=hp
 refine Au (Ai (Gm rfl (Gr (Bz rfl rfl) (Gm rfl (Bb (d:=18) rfl (fun g18=>?_) (fun g18=>?_))))))
 ·refine Gro (Ad rfl) (Gro (Bz rfl rfl) (Gr (Ao rfl rfl) (Af (A7 rfl (fun c21=>?_) (fun c21=>?_)))))
  ·refine Aw (Aj (Au (A4 (Ai (Gm rfl (Gm rfl (Gm rfl (Gm rfl (G.e (Ap call77 rfl rfl (MkEvent_at (by repeat (first|exact AtF.head _ _|apply AtF.tail)) (fun _=>B7 (hl _) A0) om  om om)) ?_)))))))))
   rintro _ _ ⟨_,_,⟨⟨ev5,i6⟩,⟨⟨rfl,hfev5,htev5⟩,hi6⟩,rfl⟩,rfl,rfl⟩
   show G Tryz.prog κ _ _ _ _ ([(28,.agg #[I64 (ev5.kd),I64 (ev5.tm),I64 (ev5.u),I64 (ev5.v),I64 (ev5.w),I64 (ev5.lb),I64 (ev5.sg)]),(27,I64 (tt)),(26,I64 (n)),(25,.pointer (some ⟨b,0,none⟩)),(24,.slice a1 out.length c1),(21,.bool (decide (1<n))),(20,.bool (decide (1<n))),(19,I64 (n)),(18,.bool true),(18,.bool (decide (0<kq))),(17,.bool (decide (0<kq))),(16,I64 (kq)),(0,.pointer (some ⟨b,0,none⟩)),(1,I64 (n)),(7,.slice a1 out.length c1),(8,I64 (tt)),(9,I64 (kq))]:Env) (vc 108 (.slice a1 out.length c1) (out)::blk b [lv,I64 (i6)] 125::I)
   have hi6:0≤i6:=hi6
   dsimp only at hfev5
   dsimp only at htev5
   refine Ge1 (B1 (α:=Ev) (cs:=[I64 (ev5.kd),I64 (ev5.tm),I64 (ev5.u),I64 (ev5.v),I64 (ev5.w),I64 (ev5.lb),I64 (ev5.sg)]) (xs:=[⟨ev5.kd,ev5.tm,ev5.u,ev5.v,ev5.w,ev5.lb,ev5.sg⟩]) A1 ty108 rfl rfl dc dc rfl kr rfl rfl) fun ad7=>?_
   refine Ge2 (B0 (α:=Ev) (e:=108) (xs:=out) (ys:=([⟨ev5.kd,ev5.tm,ev5.u,ev5.v,ev5.w,ev5.lb,ev5.sg⟩]:List Ev)) A1 ty108 rfl rfl rfl mm Bf lcn dc rfl (fun _ _=>am)) fun ad8 cp9=>?_
   refine Ga rfl (Af (Ar (S5 7 0 1 8 9 rfl rfl rfl rfl rfl) (Az (Gm rfl (Gm rfl (G.e (Ap call19 rfl rfl (Next_ok (by repeat (first|exact AtF.head _ _|apply AtF.tail)) (B7 (hl _) A0) om om)) ?_))))))
   rintro _ _ ⟨_,_,⟨x10,i11,rfl,hx10,hi11,rfl⟩,rfl,rfl⟩
   show G Tryz.prog κ _ _ _ _ ([(33,I64 (x10)),(32,.pointer (some ⟨b,0,none⟩)),(31,I64 (tt)),(7,.slice ad8 (out++([⟨ev5.kd,ev5.tm,ev5.u,ev5.v,ev5.w,ev5.lb,ev5.sg⟩]:List Ev)).length cp9),(0,.pointer (some ⟨b,0,none⟩)),(1,I64 (n)),(8,I64 (tt)),(9,I64 (kq))]:Env) (vc 108 (.slice ad7 1 1) (([⟨ev5.kd,ev5.tm,ev5.u,ev5.v,ev5.w,ev5.lb,ev5.sg⟩]:List Ev))::vc 108 (.slice ad8 (out++([⟨ev5.kd,ev5.tm,ev5.u,ev5.v,ev5.w,ev5.lb,ev5.sg⟩]:List Ev)).length cp9) (out++([⟨ev5.kd,ev5.tm,ev5.u,ev5.v,ev5.w,ev5.lb,ev5.sg⟩]:List Ev))::blk b [lv,I64 (i11)] 125::I)
   exact Gr (Rad rfl rfl) (Ga rfl (Bc (Ak (Aj (Az (Gm rfl (Gr (Rsu rfl rfl) (Ga rfl (Bc (B3 ((kq - 1),(i11),(ad8),(cp9),(out++([⟨ev5.kd,ev5.tm,ev5.u,ev5.v,ev5.w,ev5.lb,ev5.sg⟩]:List Ev)),(tt+x10)) (by dsimp only;exact ⟨lap,om,(EvOk.later (by first|exact hE.push asm asm|exact EvOk.push hE asm asm) om),lap⟩)))))))))))
  ·exact absurd hn.1 om
 ·exact Gpo (Gpo (Gr (Al rfl rfl) (Af (C9 rfl (Bs (Am (Am (A6 (Aj (Ai (Gm rfl (Ga rfl (Af (Ar (S1 6 rfl) (Ax (Ay rfl rfl (vc 108 (.slice a1 out.length c1) (out)::blk b [lv,I64 (iqa)] 125::I) A5 ⟨(a1,c1,out,iqa),⟨⟨rfl,⟨hE.later om,by show (out.length:Int)≤most;omega⟩⟩,by show 0≤iqa;omega⟩,rfl⟩))))))))))))))))
theorem MkEvents_at{F:Item→List Item}{b:Nat}{lv:Value}{ls:List Int}{i:Int}{n most:Int}(hat:AtF I (deck b lv i) F)(hl:∀q,Sl κ (F (deck b lv q)) lv ls)(h0:0≤i)(hn:2≤n∧n≤64)(hm:0≤most∧most≤20) :
  CallS Tryz.prog κ 20 [.pointer (some ⟨b,0,none⟩),I64 (n),I64 (most)] I fun r J=>∃y:(Option Addr)×Nat×(List Ev)×Int,((r = .slice y.1 y.2.2.1.length y.2.1∧(EvOk n 500 y.2.2.1∧(y.2.2.1.length:Int)≤most))∧0≤y.2.2.2)∧J=[vc 108 (.slice y.1 y.2.2.1.length y.2.1) y.2.2.1]++F (deck b lv y.2.2.2):=
 Eg (Post:=fun r (y:(Option Addr)×Nat×(List Ev)×Int)=>(r = .slice y.1 y.2.2.1.length y.2.1∧(EvOk n 500 y.2.2.1∧(y.2.2.1.length:Int)≤most))∧0≤y.2.2.2) (Z:=fun y:(Option Addr)×Nat×(List Ev)×Int=>[vc 108 (.slice y.1 y.2.2.1.length y.2.1) y.2.2.1]) (X:=fun y:(Option Addr)×Nat×(List Ev)×Int=>deck b lv y.2.2.2) hat fun J _ hF=>MkEvents_base (fun q=>(hl q).fit (hF _)) h0  hn hm
variable {κ:Ctx}{I:List Item}
theorem slideE_zeroH{nd kd wd mo:Int}{es:List Ev}(h:HistOk nd kd wd mo es):slideE nd kd wd mo es=0:=by
 unfold slideE
 rw [if_neg (by simp [h.win])]
 have h1:=h.st.nodes
 have h2:=h.st.len
 unfold streamE
 rw [if_neg om,if_neg om]
 exact streamS_ok h.st.fit h.st.asc es.length 0 om
theorem Slide_hist{nd kd wd mo:Int}{va:Value}{es:List Ev}(hl:Sl κ I va es)(h:HistOk nd kd wd mo es) :
  CallS Tryz.prog κ 140 [I64 nd,va,.agg #[I64 kd,I64 wd,I64 mo]] I fun r J=>∃a c,r = .tuple #[.slice a (slideS kd wd mo es).2.length c,I64 0]∧J=vc 108 (.slice a (slideS kd wd mo es).2.length c) (slideS kd wd mo es).2::I:=
 (Slide_ok hl).mono fun r J hh=>by
  rcases hh with ⟨h1,_⟩|⟨a,c,_,h2,h3⟩
  ·exact absurd (slideE_zeroH h) h1
  ·exact ⟨a,c,h2,h3⟩
theorem Fit.one{κ:Ctx}{x:Item}{I:List Item}:Fit κ (x::I) [x]:=D2 (List.Sublist.cons_cons _ (List.nil_sublist _))
theorem Fit.mid{κ:Ctx}{A L T:List Item}:Fit κ (A++(L++T)) (A++T):=D2 (List.Sublist.append (List.Sublist.refl _) (List.sublist_append_right _ _))
theorem at_zero_drop{α:Type}[Inhabited α](xs:List α)(l:Nat):at_ (xs.drop l) 0=at_ xs (l:Int):=by
 rw [at_drop xs l 0 (Int.le_refl _),Int.add_zero]
theorem links_len{nd:Int}{X:List Lk}(h:checkS nd X=0):X.length≤2016:=by
 have:=edges_le (edgesK_ok h)
 rwa [edgesK_len] at this
structure MomentX (E:List Ev) (fst:Bool) (j:Nat) (t:Int) (own:Bool) (j':Nat):Prop extends Moment E fst j t own j' where
 adv:fst=false→j<j'
set_option maxHeartbeats 4000000 in
theorem Frames1_ok{l bq1 bq2 bq3:Nat}{nd kd wd mo:Int}{ea:Option Addr}{ec:Nat}{es:List Ev}{σ τ:Type}{Lf:σ→List Item}{Pf:Bool→Nat→σ→Prop}{Xf:τ→List Item}{Qf:τ→Prop}{s0:σ}(hH:HistOk nd kd wd mo es)(hlen:es.length≤19)(h1:BlkRd κ I bq1 [I64 nd] 3)(h2:BlkRd κ I bq2 [.slice ea es.length ec] 28)(h3:BlkRd κ I bq3 [I64 kd,I64 wd,I64 mo] 31)(hx:Sl κ I (.slice ea es.length ec) es)(hp0:Pf true 0 s0) (hy:∀T:List Item,Fit κ T I→∀(fst:Bool) (j:Nat) (t:Int) (own:Bool) (j':Nat) (a:Option Addr) (c:Nat),MomentX (allE kd wd mo es) fst j t own j'→∀s,Pf fst j s→
      YieldB Tryz.prog κ l [.agg #[I64 t,.bool own],.agg #[I64 nd,.slice a (edgesK (linksL ((allE kd wd mo es).take j'))).length c]] (Lf s++(vc 135 (.slice a (edgesK (linksL ((allE kd wd mo es).take j'))).length c) (edgesK (linksL ((allE kd wd mo es).take j')))::T)) fun b J=>(b=true∧∃s',Pf false j' s'∧J=Lf s'++T)∨(b=false∧∃q,Qf q∧J=Xf q++T)) :
    CallS Tryz.prog κ 165 [(.func (.yield l) #[] #[]),.pointer (some ⟨bq1,0,none⟩),.pointer (some ⟨bq2,0,none⟩),.pointer (some ⟨bq3,0,none⟩)] (Lf s0++I) (fun r J=>r = .tuple #[]∧((∃s,Pf false (allE kd wd mo es).length s∧J=Lf s++I)∨∃q,Qf q∧J=Xf q++I)):=by
 obtain ⟨EE,hEEd⟩:∃EE,allE kd wd mo es=EE:=⟨_,rfl⟩
 rw [hEEd] at hy ⊢
 have hfE:∀e∈EE,FitOk nd e:=by rw [←hEEd];exact hH.allFit
 refine B4 (hx.fit (Fit.appR _ _)).le fun hmax=>?_
 refine Ce4 Tryz.func165 rfl rfl ?_
 refine Ai (Gr (Co ty3 rfl (Cm h1 A0) rfl) (Gr (Co ty28 rfl (Cm h2 A0) rfl) (Gr (Runs.loadBs (vs:=[_,_,_]) ty31 rfl (Cm h3 A0) rfl rfl) ?_)))
 refine G.e (Ap call140 rfl rfl (Slide_hist (nd:=nd) (kd:=kd) (wd:=wd) (mo:=mo) (es:=es) (Bj hx) hH)) ?_
 rintro _ _ ⟨_,_,⟨ad1,cp2,rfl,rfl⟩,rfl,rfl⟩
 refine Gm rfl (Gr (A2 rfl rfl) (Gr (A2 rfl rfl) (Ga rfl (Ga rfl ?_))))
 generalize hSE:(slideS kd wd mo es).2=SE
 have hfS:∀e∈SE,FitOk nd e:=by rw [←hSE];exact hH.fit
 have hSl:SE.length≤38:=by rw [←hSE];have:=hH.len2;omega
 have hlS:(linksL SE).length≤19:=by rw [←hSE];have:=hH.len;omega
 refine Af (Ai (Gr (Co ty3 rfl (Cm h1 A0) rfl) (Gr (Bl (cells:=[_,_]) ty111 Dx pl111 rfl rfl) (Ge1 (A8 ty111 rfl) fun b3=>Ge0 (Ce ty111) ?_))))
 refine G.fit (J:=vc 146 (.slice none 0 0) (([]:List Lk))::blk b3 [I64 (nd),.slice none 0 0] 111::vc 108 (.slice ad1 (SE).length cp2) (SE)::(Lf s0++I)) (Bw (α:=Lk) _ _) ?_
 refine Af (Ar (S5 7 5 0 1 3 rfl rfl rfl rfl rfl) (Au (Ai (Gm rfl (Gr (Bp A1 rfl) (Gm rfl (Af (A4 (Bv (σ:=Nat×(Option Addr)×Nat) (fun s=>([(0,(.func (.yield l) #[] #[])),(1,.pointer (some ⟨bq1,0,none⟩)),(3,.pointer (some ⟨bq3,0,none⟩)),(5,.slice ad1 (SE).length cp2),(7,.pointer (some ⟨b3,0,none⟩)),(22,.slice ad1 (SE).length cp2),(23,I64 ((((SE).length:Nat):Int))),(24,I64 (((s.1:Nat):Int)))]:Env)) (fun s=>vc 146 (.slice s.2.1 (linksL (SE.take s.1)).length s.2.2) (linksL (SE.take s.1))::blk b3 [I64 (nd),.slice s.2.1 (linksL (SE.take s.1)).length s.2.2] 111::vc 108 (.slice ad1 (SE).length cp2) (SE)::(Lf s0++I)) (fun s=>(s.1≤SE.length)) (fun s=>SE.length - s.1) (0,none,0) (show ((0:Nat)≤SE.length) from om) (Aa rfl (Aa rfl (Aa rfl (Aa rfl (Aa rfl (Aa rfl (Aa rfl (Aa B8 Bg)))))))) (show Fit κ _ (vc 146 (.slice (none) (linksL (SE.take (0))).length (0)) (linksL (SE.take (0)))::blk b3 [I64 (nd),.slice (none) (linksL (SE.take (0))).length (0)] 111::vc 108 (.slice ad1 (SE).length cp2) (SE)::(Lf s0++I)) from Bt) ?_)))))))))
 rintro ⟨k,a,c⟩ hp
 dsimp only at hp ⊢
 have hk:=hp
 have hvX:=links_val hH.st.nodes hfS k
 have hlX:=links_len hvX
 refine Ai (Gr (A9 rfl rfl) (Af (Au (A7 rfl (fun c25=>?_) (fun c25=>?_)))))
 ·refine Aw (Aj (Au (A4 (Ai (Gr (A3 (α:=Ev) (xs:=SE) A1 ty108 rfl rfl Bf om om) (Gr (Bu (α:=Ev) (xs:=SE) ty108 rfl Bf om om) (Ge1 (A8 ty108 rfl) fun b4=>Ge0 (Es7_7 ty108) ?_)))))))
  refine Af (Az (Gl2 ty111 ?_))
  refine Gl7 ty108 ?_
  refine G.e (Ap call141 rfl rfl (Cj (J:=vc 146 (.slice a (linksL (SE.take k)).length c) (linksL (SE.take k))::blk b4 [I64 ((at_ SE (k:Int)).kd),I64 ((at_ SE (k:Int)).tm),I64 ((at_ SE (k:Int)).u),I64 ((at_ SE (k:Int)).v),I64 ((at_ SE (k:Int)).w),I64 ((at_ SE (k:Int)).lb),I64 ((at_ SE (k:Int)).sg)] 108::blk b3 [I64 (nd),.slice a (linksL (SE.take k)).length c] 111::vc 108 (.slice ad1 (SE).length cp2) (SE)::(Lf s0++I)) Bt (ApplyP_ok (nd:=nd) (e:=(at_ SE (k:Int))) (xs:=linksL (SE.take k)) asm (by first|exact hfS _ (Cf om om)|(rw [hd0];exact hfE _ (Cf om om))) om))) ?_
  rintro _ _ ⟨_,_,⟨ad5,cp6,wv7,rfl,rfl⟩,rfl,rfl⟩
  refine Gm rfl (Gr (A2 rfl rfl) (Gr (A2 rfl rfl) (Gr (A2 rfl rfl) (Ge0 (Ce ty111) ?_))))
  exact Bc (Ak (Aj (Ar (S8 0 1 3 5 7 22 23 24 rfl rfl rfl rfl rfl rfl rfl rfl) (Az (Gr (Rad rfl rfl) (Gm rfl (Bc (B3 ((k+1),(ad5),(cp6)) (by dsimp only;exact om) (hI:=by (try dsimp only);exact (by rw [linksL_take om];exact Bt))))))))))
 ·refine Bs (Am (Am (A6 (Aj (Ai (Gm rfl (Gl2 ty111 ?_)))))))
  refine Gr (Runs.loadBs (vs:=[_,_,_]) ty31 rfl (Cm h3 A0) rfl rfl) ?_
  refine G.e (Ap call166 rfl rfl (Late_ok (nd:=nd) (kd:=kd) (wd:=wd) (mo:=mo) Bf asm (checkW_wd hH.win) (by rw [show k=SE.length by omega,List.take_length];exact hlS))) ?_
  rintro _ _ ⟨_,_,⟨ad8,cp9,rfl,rfl⟩,rfl,rfl⟩
  refine Ge2 (B0 (α:=Ev) (e:=108) (xs:=SE) (ys:=isortG evC (lateL kd wd (linksL (SE.take k)))) A1 ty108 rfl rfl rfl mm Bf (by first|omega|(have hq1:=(Ee evC (lateL kd wd (linksL (SE.take k)))).length_eq;have hq2:=lateL_len kd wd (linksL (SE.take k));omega)) dc rfl (fun _ _=>am)) fun ad10 cp11=>?_
  refine Ga rfl ?_
  have hEE:SE++(isortG evC (lateL kd wd (linksL (SE.take k))))=EE:=by rw [←hEEd,show k=SE.length by omega,List.take_length];unfold allE;rw [hSE]
  rw [hEE]
  refine G.fit (J:=vc 146 (.slice a (linksL (SE.take k)).length c) (linksL (SE.take k))::blk b3 [I64 (nd),.slice a (linksL (SE.take k)).length c] 111::vc 108 (.slice ad10 EE.length cp11) (EE)::(Lf s0++I)) Bt ?_
  have hev0:Sl κ [vc 108 (.slice ad10 EE.length cp11) EE] (.slice ad10 (List.drop 0 EE).length cp11) (List.drop 0 EE):=E5 List.mem_cons_self
  refine Af (Ar (S4 5 0 1 7 rfl rfl rfl rfl) (Ai (Gr (Co ty3 rfl (Cm h1 A0) rfl) (Gr (Bl (cells:=[_,_]) ty111 Dx pl111 rfl rfl) (Ge0 (Ce ty111) ?_)))))
  refine Af (Ai (Gr (Bl (cells:=[_,_]) ty153 Tryz.underlying153 pl153 rfl rfl) (Ge1 (A8 ty153 rfl) fun b12=>Ge0 (Ce ty153) ?_)))
  refine Af (A4 (Bv (σ:=Nat×Bool×Nat×Int×(Option Addr)×Nat×(Option Addr)×Nat×σ) (fun s=>([(0,(.func (.yield l) #[] #[])),(5,.slice s.2.2.2.2.1 (List.drop s.1 EE).length s.2.2.2.2.2.1),(7,.pointer (some ⟨b3,0,none⟩)),(10,.pointer (some ⟨s.2.2.1,0,none⟩))]:Env)) (fun s=>blk s.2.2.1 [I64 (s.2.2.2.1),.bool false] 153::vc 146 (.slice s.2.2.2.2.2.2.1 (linksL (EE.take s.1)).length s.2.2.2.2.2.2.2.1) (linksL (EE.take s.1))::blk b3 [I64 (nd),.slice s.2.2.2.2.2.2.1 (linksL (EE.take s.1)).length s.2.2.2.2.2.2.2.1] 111::vc 108 (.slice ad10 EE.length cp11) (EE)::(Lf s.2.2.2.2.2.2.2.2++I)) (fun s=>(s.1≤EE.length)∧(s.2.1=true→s.2.2.2.1=0∧s.1=0)∧(s.2.1=false→s.1<EE.length∧s.2.2.2.1=(at_ EE ((s.1:Nat):Int)).tm)∧(Pf s.2.1 s.1 s.2.2.2.2.2.2.2.2)∧(Sl κ [vc 108 (.slice ad10 EE.length cp11) EE] (.slice s.2.2.2.2.1 (List.drop s.1 EE).length s.2.2.2.2.2.1) (List.drop s.1 EE))) (fun s=>2*(EE.length - s.1)+s.2.1.toNat) (0,true,b12,0,ad10,cp11,none,0,s0) (show ((0:Nat)≤EE.length)∧((true:Bool)=true→(0:Int)=0∧(0:Nat)=0)∧((true:Bool)=false→(0:Nat)<EE.length∧(0:Int)=(at_ EE (((0:Nat):Nat):Int)).tm)∧(Pf (true:Bool) (0:Nat) (s0:σ))∧(Sl κ [vc 108 (.slice ad10 EE.length cp11) EE] (.slice (ad10:Option Addr) (List.drop (0:Nat) EE).length (cp11:Nat)) (List.drop (0:Nat) EE)) from ⟨om,(fun _=>⟨rfl,rfl⟩),(fun h=>by cases h),hp0,hev0⟩) (Aa rfl (Aa (Cp rfl (by first|rfl|simp)) (Aa rfl (Aa (Cp rfl (by first|rfl|simp)) Bg)))) (show Fit κ _ (blk (b12) [I64 ((0)),.bool false] 153::vc 146 (.slice (none) (linksL (EE.take (0))).length (0)) (linksL (EE.take (0)))::blk b3 [I64 (nd),.slice (none) (linksL (EE.take (0))).length (0)] 111::vc 108 (.slice ad10 EE.length cp11) (EE)::(Lf (s0)++I)) from (Cg (Bw (α:=Lk) _ _) Bt)) ?_))
  rintro ⟨j,fst,tb,tt,e1,d1,a,c,st_⟩ hp
  dsimp only at hp ⊢
  obtain ⟨hj,hfst,hnx,hps,hev⟩:=hp
  have hft:(fst=true∧fst.toNat=1)∨(fst=false∧fst.toNat=0):=by cases fst<;>simp
  refine Au (A4 (Eq (σ:=Nat×Bool×(Option Addr)×Nat×(Option Addr)×Nat) (fun s=>([(0,(.func (.yield l) #[] #[])),(5,.slice s.2.2.1 (List.drop s.1 EE).length s.2.2.2.1),(7,.pointer (some ⟨b3,0,none⟩)),(10,.pointer (some ⟨tb,0,none⟩))]:Env)) (fun s=>blk tb [I64 (tt),.bool (s.2.1)] 153::vc 146 (.slice s.2.2.2.2.1 (linksL (EE.take s.1)).length s.2.2.2.2.2) (linksL (EE.take s.1))::blk b3 [I64 (nd),.slice s.2.2.2.2.1 (linksL (EE.take s.1)).length s.2.2.2.2.2] 111::vc 108 (.slice ad10 EE.length cp11) (EE)::(Lf st_++I)) (fun s=>(MomentX EE fst j tt s.2.1 s.1)∧(Sl κ [vc 108 (.slice ad10 EE.length cp11) EE] (.slice s.2.2.1 (List.drop s.1 EE).length s.2.2.2.1) (List.drop s.1 EE))) ?_ ?_))
  ·refine A4 (Bv (σ:=Nat×Bool×(Option Addr)×Nat×(Option Addr)×Nat) (fun s=>([(0,(.func (.yield l) #[] #[])),(5,.slice s.2.2.1 (List.drop s.1 EE).length s.2.2.2.1),(7,.pointer (some ⟨b3,0,none⟩)),(10,.pointer (some ⟨tb,0,none⟩))]:Env)) (fun s=>blk tb [I64 (tt),.bool (s.2.1)] 153::vc 146 (.slice s.2.2.2.2.1 (linksL (EE.take s.1)).length s.2.2.2.2.2) (linksL (EE.take s.1))::blk b3 [I64 (nd),.slice s.2.2.2.2.1 (linksL (EE.take s.1)).length s.2.2.2.2.2] 111::vc 108 (.slice ad10 EE.length cp11) (EE)::(Lf st_++I)) (fun s=>(j≤s.1∧s.1≤EE.length)∧(∀i:Nat,j≤i→i<s.1→(at_ EE (i:Int)).tm=tt)∧(s.2.1=decide (j<s.1))∧(Sl κ [vc 108 (.slice ad10 EE.length cp11) EE] (.slice s.2.2.1 (List.drop s.1 EE).length s.2.2.2.1) (List.drop s.1 EE))) (fun s=>EE.length - s.1) (j,false,e1,d1,a,c) (show (j≤(j:Nat)∧(j:Nat)≤EE.length)∧(∀i:Nat,j≤i→i<(j:Nat)→(at_ EE (i:Int)).tm=tt)∧((false:Bool)=decide (j<(j:Nat)))∧(Sl κ [vc 108 (.slice ad10 EE.length cp11) EE] (.slice (e1:Option Addr) (List.drop (j:Nat) EE).length (d1:Nat)) (List.drop (j:Nat) EE)) from ⟨om,(fun i h1 h2=>by omega),(by rw [decide_eq_false om]),hev⟩) (Aa rfl (Aa (Cp rfl (by first|rfl|simp)) (Aa rfl (Aa rfl Bg)))) (show Fit κ _ (blk tb [I64 (tt),.bool ((false))] 153::vc 146 (.slice (a) (linksL (EE.take (j))).length (c)) (linksL (EE.take (j)))::blk b3 [I64 (nd),.slice (a) (linksL (EE.take (j))).length (c)] 111::vc 108 (.slice ad10 EE.length cp11) (EE)::(Lf st_++I)) from Bt) ?_)
   rintro ⟨j2,own,e2,d2,a4,c4⟩ hp
   dsimp only at hp ⊢
   obtain ⟨hj2,hsame,hown,hev2⟩:=hp
   have hd0:=at_zero_drop EE j2
   have hdl:(List.drop j2 EE).length=EE.length - j2:=List.length_drop
   have hvX:=links_val hH.st.nodes hfE j2
   have hlX:=links_len hvX
   refine Au (Au (Bk mixed (Bo (blk tb [I64 (tt),.bool (own)] 153::vc 146 (.slice a4 (linksL (EE.take j2)).length c4) (linksL (EE.take j2))::blk b3 [I64 (nd),.slice a4 (linksL (EE.take j2)).length c4] 111::vc 108 (.slice ad10 EE.length cp11) (EE)::(Lf st_++I)) 12 (Dr 0 rfl (Ad rfl) (Dr 1 rfl (Bp A1 rfl) (Dr 2 rfl (Bz rfl rfl) (Dr 3 rfl (Ad rfl) (C7 (d:=47) rfl (fun g47=>?_) (fun g47=>?_)))))))))
   ·refine Dro 4 rfl (Ad rfl) (Dro 5 rfl (A3 (α:=Ev) (xs:=List.drop j2 EE) A1 ty108 rfl rfl (B7 hev2 f1) om om) (Dro 6 rfl (C0 (α:=Ev) (xs:=List.drop j2 EE) fld108_1 rfl (B7 hev2 f1) om) (Dro 7 rfl (C1 (α:=Ev) (xs:=List.drop j2 EE) (u:=I64 ((at_ (List.drop j2 EE) 0).tm)) ty3 rfl (B7 hev2 f1) om om rfl) (Dro 8 rfl (Ab fld153_0 rfl) (Dro 9 rfl (As ty3) ?_)))))
    refine Dro 10 rfl (Bi rfl rfl) (Dr 11 rfl (Ao rfl rfl) (Dz (Aj (Ar (S5 55 0 5 7 10 rfl rfl rfl rfl rfl) (A7 rfl (fun c55=>?_) (fun c55=>?_))))))
    ·refine Aw (Aj (A4 (Au (Bk mixed (Bo (blk tb [I64 (tt),.bool (own)] 153::vc 108 (.slice ad10 EE.length cp11) (EE)::(Lf st_++I)) 10 (Dr 1 rfl (Ad rfl) (Dr 2 rfl (A3 (α:=Ev) (xs:=List.drop j2 EE) A1 ty108 rfl rfl (B7 hev2 f1) om om) (Dr 3 rfl (Bu (α:=Ev) (xs:=List.drop j2 EE) ty108 rfl (B7 hev2 f1) om om) (Ds1 0 (Sr rfl (Bq (vs:=[_,_]) ty111) A5 ?_))))))))))
     refine Ds1 4 (Se rfl (Ap call141 rfl rfl (Cj (J:=vc 146 (.slice a4 (linksL (EE.take j2)).length c4) (linksL (EE.take j2))::blk tb [I64 (tt),.bool (own)] 153::blk b3 [I64 (nd),.slice a4 (linksL (EE.take j2)).length c4] 111::vc 108 (.slice ad10 EE.length cp11) (EE)::(Lf st_++I)) Bt (ApplyP_ok (nd:=nd) (e:=(at_ (List.drop j2 EE) 0)) (xs:=linksL (EE.take j2)) asm (by first|exact hfS _ (Cf om om)|(rw [hd0];exact hfE _ (Cf om om))) om))) ?_)
     rintro _ _ ⟨_,_,⟨ad13,cp14,wv15,rfl,rfl⟩,rfl,rfl⟩
     refine ⟨A5,?_⟩
     refine Dr 5 rfl (Ad rfl) (Dr 6 rfl (A2 rfl rfl) (Dr 7 rfl (A2 rfl rfl) (Dr 8 rfl (A2 rfl rfl) (Ds1 9 (Se0 rfl (Ce ty111) ?_)))))
     refine Dz (Aj (Ar (S4 0 5 7 10 rfl rfl rfl rfl) (Az (Gm rfl (Gr (Ec (α:=Ev) (xs:=List.drop j2 EE) (l:=1) A1 ty108 rfl rfl om (B7 hev2 f1) om) (Ga rfl (Gf fld153_1 rfl (Ge0 (Eu ty4) ?_))))))))
     exact Bc (Ak (B3 ((j2+1),(true),((adrop e2 d2 1 (Enc.sz Ev))),((d2 - 1)),(ad13),(cp14)) (by dsimp only;exact ⟨om,(fun i h1 h2=>by by_cases e:i=j2;(· subst e;rw [←hd0];assumption);(· exact hsame i h1 om)),(by rw [decide_eq_true om]),(by have h:=Do (l:=1) hev2 om;rw [List.drop_drop] at h;exact h)⟩) (hI:=by (try dsimp only);exact (by rw [linksL_take om,←hd0];exact Bt))))
    ·exact Bs (Am (Am (A6 (Dh ((j2),(own),(e2),(d2),(a4),(c4)) (by dsimp only;exact ⟨(⟨⟨by omega,hsame,fun h=>by first|(rw [←hd0];assumption)|(exfalso;omega),hown,hfst,hnx⟩,fun hff=>by have hq:=hnx hff;rcases Nat.lt_or_ge j j2 with hlt|hge;(· exact hlt);(· exfalso;have hjj:j2=j:=om;subst hjj;first|omega|(rw [hd0] at c55;exact c55 hq.2.symm))⟩),hev2⟩)))))
   ·exact Dpo 4 rfl (Dpo 5 rfl (Dpo 6 rfl (Dpo 7 rfl (Dpo 8 rfl (Dpo 9 rfl (Dpo 10 rfl (Dr 11 rfl (Al rfl rfl) (Dz (Aj (Ar (S5 55 0 5 7 10 rfl rfl rfl rfl rfl) (C9 rfl (Bs (Am (Am (A6 (Dh ((j2),(own),(e2),(d2),(a4),(c4)) (by dsimp only;exact ⟨(⟨⟨by omega,hsame,fun h=>by first|(rw [←hd0];assumption)|(exfalso;omega),hown,hfst,hnx⟩,fun hff=>by have hq:=hnx hff;rcases Nat.lt_or_ge j j2 with hlt|hge;(· exact hlt);(· exfalso;have hjj:j2=j:=om;subst hjj;first|omega|(rw [hd0] at c55;exact c55 hq.2.symm))⟩),hev2⟩)))))))))))))))))
  ·rintro ⟨j3,own3,e3,d3,a5,c5⟩ hp
   obtain ⟨hM3,hev3⟩:(MomentX EE fst j tt own3 j3)∧(Sl κ [vc 108 (.slice ad10 EE.length cp11) EE] (.slice e3 (List.drop j3 EE).length d3) (List.drop j3 EE)):=hp
   show W Tryz.prog κ 89 _ _ ([(0,(.func (.yield l) #[] #[])),(5,.slice e3 (List.drop j3 EE).length d3),(7,.pointer (some ⟨b3,0,none⟩)),(10,.pointer (some ⟨tb,0,none⟩))]:Env) (blk tb [I64 (tt),.bool (own3)] 153::vc 146 (.slice a5 (linksL (EE.take j3)).length c5) (linksL (EE.take j3))::blk b3 [I64 (nd),.slice a5 (linksL (EE.take j3)).length c5] 111::vc 108 (.slice ad10 EE.length cp11) (EE)::(Lf st_++I))
   have hmle:=hM3.le
   have hdl3:(List.drop j3 EE).length=EE.length - j3:=List.length_drop
   refine Ai (Gl2 ty111 ?_)
   refine Gc2 (Ap call167 rfl rfl (LGraph_ok (nd:=nd) Bf (links_val hH.st.nodes hfE j3) (by have:=links_len (links_val hH.st.nodes hfE j3);omega))) fun ad16 cp17=>?_
   refine Gm rfl (Gr (A2 rfl rfl) (Gr (A2 rfl rfl) (Ge1 (A8 ty48 rfl) fun b18=>Ge0 (Ce ty48) ?_)))
   refine Ga rfl (Af (Au (Au (W.regionI ?_))))
   refine Ed (Ch rfl) rfl rfl (Ad rfl) ?_
   refine Ed (Ch rfl) rfl rfl (Bq (vs:=[_,_]) ty153) ?_
   refine Ed (Ch rfl) rfl rfl (Bq (vs:=[_,_]) ty48) ?_
   refine GY.yieldB (l:=l) (Ch rfl) rfl rfl rfl (YieldB.fit (Cg Bt (Fit.perm (perm_fr (A:=[vc 135 (.slice ad16 (edgesK (linksL (EE.take j3))).length cp17) (edgesK (linksL (EE.take j3))),blk b18 [I64 (nd),.slice ad16 (edgesK (linksL (EE.take j3))).length cp17] 48,blk tb [I64 (tt),.bool (own3)] 153,vc 146 (.slice a5 (linksL (EE.take j3)).length c5) (linksL (EE.take j3)),blk b3 [I64 (nd),.slice a5 (linksL (EE.take j3)).length c5] 111,vc 108 (.slice ad10 EE.length cp11) (EE)]) (L:=Lf st_) (T:=I)))) (hy ([blk b18 [I64 (nd),.slice ad16 (edgesK (linksL (EE.take j3))).length cp17] 48,blk tb [I64 (tt),.bool (own3)] 153,vc 146 (.slice a5 (linksL (EE.take j3)).length c5) (linksL (EE.take j3)),blk b3 [I64 (nd),.slice a5 (linksL (EE.take j3)).length c5] 111,vc 108 (.slice ad10 EE.length cp11) (EE)]++I) (Fit.appR _ _) fst j tt own3 j3 ad16 cp17 hM3 st_ hps)) ?_
   rintro b _ (⟨rfl,s2_,hp2,rfl⟩|⟨rfl,q_,hq_,rfl⟩)
   ·refine GY.fit (J:=blk b18 [I64 (nd),.slice ad16 (edgesK (linksL (EE.take j3))).length cp17] 48::blk tb [I64 (tt),.bool (own3)] 153::vc 146 (.slice a5 (linksL (EE.take j3)).length c5) (linksL (EE.take j3))::blk b3 [I64 (nd),.slice a5 (linksL (EE.take j3)).length c5] 111::vc 108 (.slice ad10 EE.length cp11) (EE)::(Lf s2_++I)) (Fit.perm (perm_fr (A:=Lf s2_) (L:=[blk b18 [I64 (nd),.slice ad16 (edgesK (linksL (EE.take j3))).length cp17] 48,blk tb [I64 (tt),.bool (own3)] 153,vc 146 (.slice a5 (linksL (EE.take j3)).length c5) (linksL (EE.take j3)),blk b3 [I64 (nd),.slice a5 (linksL (EE.take j3)).length c5] 111,vc 108 (.slice ad10 EE.length cp11) (EE)]) (T:=I))) ?_
    show GY Tryz.prog κ _ _ _ _ ([(76,.bool true),(75,.agg #[I64 (nd),.slice ad16 (edgesK (linksL (EE.take j3))).length cp17]),(74,.agg #[I64 (tt),.bool (own3)]),(73,(.func (.yield l) #[] #[])),(12,I64 (0)),(11,.pointer (some ⟨b18,0,none⟩)),(72,I64 (0)),(71,.agg #[I64 (nd),.slice ad16 (edgesK (linksL (EE.take j3))).length cp17]),(68,.tuple #[.agg #[I64 (nd),.slice ad16 (edgesK (linksL (EE.take j3))).length cp17],I64 (0)]),(70,.tuple #[.agg #[I64 (nd),.slice ad16 (edgesK (linksL (EE.take j3))).length cp17],I64 (0)]),(69,.agg #[I64 (nd),.slice a5 (linksL (EE.take j3)).length c5]),(0,(.func (.yield l) #[] #[])),(5,.slice e3 (List.drop j3 EE).length d3),(7,.pointer (some ⟨b3,0,none⟩)),(10,.pointer (some ⟨tb,0,none⟩))]:Env) (blk b18 [I64 (nd),.slice ad16 (edgesK (linksL (EE.take j3))).length cp17] 48::blk tb [I64 (tt),.bool (own3)] 153::vc 146 (.slice a5 (linksL (EE.take j3)).length c5) (linksL (EE.take j3))::blk b3 [I64 (nd),.slice a5 (linksL (EE.take j3)).length c5] 111::vc 108 (.slice ad10 EE.length cp11) (EE)::(Lf s2_++I))
    refine Ed (Ch rfl) rfl rfl (Cu rfl) ?_
    refine Ed (Ch rfl) rfl rfl (Ad rfl) ?_
    refine Ed (Cv rfl rfl rfl) rfl rfl (Ad rfl) ?_
    refine Ed (Cv rfl rfl rfl) rfl rfl (Bp A1 rfl) ?_
    refine Ed (Cv rfl rfl rfl) rfl rfl (Bi rfl rfl) ?_
    refine Ed (Ch rfl) rfl rfl (Al rfl rfl) ?_
    refine GY.nil ?_
    refine Aj (Ar (S5 82 0 5 7 10 rfl rfl rfl rfl rfl) (A7 rfl (fun c82=>?_) (fun c82=>?_)))
    ·refine Ax (Ah (Av (Ah (Ah (Av ?_)))))
     have hje:j3=EE.length:=by omega
     exact V.ret0 rfl ((Lf s2_++I)) (by repeat (first|exact Df _|apply Fit.tail)) ⟨rfl,.inl ⟨s2_,by rw [←hje];exact hp2,rfl⟩⟩
    ·refine Aw (Aj (Az (Gm rfl (Gr (A3 (α:=Ev) (xs:=List.drop j3 EE) A1 ty108 rfl rfl (B7 hev3 f1) om om) (Gr (C0 (α:=Ev) (xs:=List.drop j3 EE) fld108_1 rfl (B7 hev3 f1) om) (Gr (C1 (α:=Ev) (xs:=List.drop j3 EE) (u:=I64 ((at_ (List.drop j3 EE) 0).tm)) ty3 rfl (B7 hev3 f1) om om rfl) ?_))))))
     rw [at_zero_drop EE j3]
     refine Gr (Bl (cells:=[_,_]) ty153 Tryz.underlying153 pl153 rfl rfl) (Ge0 (Ce ty153) ?_)
     refine Bc (Ak (Aj (Ai (Gl2 ty153 ?_))))
     refine Af (Az (Ge1 (A8 ty153 rfl) fun b19=>Ge0 (Ce ty153) ?_))
     exact Bc (B3 ((j3),(false),(b19),((at_ EE (j3:Int)).tm),(e3),(d3),(a5),(c5),(s2_)) (by dsimp only;exact ⟨om,(fun h=>by cases h),(fun _=>⟨by omega,rfl⟩),hp2,hev3⟩) (hlt:=by (try dsimp only);exact (by show 2*(EE.length - j3)+0<2*(EE.length - j)+fst.toNat;rcases hft with h|h;(· omega);(· have:=hM3.le;have:=hM3.adv h.1;omega))))
   ·refine GY.fit (J:=Xf q_++I) Fit.mid ?_
    show GY Tryz.prog κ _ _ _ _ ([(76,.bool false),(75,.agg #[I64 (nd),.slice ad16 (edgesK (linksL (EE.take j3))).length cp17]),(74,.agg #[I64 (tt),.bool (own3)]),(73,(.func (.yield l) #[] #[])),(12,I64 (0)),(11,.pointer (some ⟨b18,0,none⟩)),(72,I64 (0)),(71,.agg #[I64 (nd),.slice ad16 (edgesK (linksL (EE.take j3))).length cp17]),(68,.tuple #[.agg #[I64 (nd),.slice ad16 (edgesK (linksL (EE.take j3))).length cp17],I64 (0)]),(70,.tuple #[.agg #[I64 (nd),.slice ad16 (edgesK (linksL (EE.take j3))).length cp17],I64 (0)]),(69,.agg #[I64 (nd),.slice a5 (linksL (EE.take j3)).length c5]),(0,(.func (.yield l) #[] #[])),(5,.slice e3 (List.drop j3 EE).length d3),(7,.pointer (some ⟨b3,0,none⟩)),(10,.pointer (some ⟨tb,0,none⟩))]:Env) ((Xf q_++I))
    refine Ed (Ch rfl) rfl rfl (Cu rfl) ?_
    refine Ed (Ch rfl) rfl rfl (Ad rfl) ?_
    refine GY.pass (Unwanted.off rfl rfl rfl) rfl rfl ?_
    refine GY.pass (Unwanted.off rfl rfl rfl) rfl rfl ?_
    refine GY.pass (Unwanted.off rfl rfl rfl) rfl rfl ?_
    refine Ed (Ch rfl) rfl rfl (Ao rfl rfl) ?_
    refine GY.nil ?_
    exact Aj (Ar (S5 82 0 5 7 10 rfl rfl rfl rfl rfl) (Ca rfl (Ax (Ah (Av (Ah (Ah (Av (V.ret0 rfl ((Xf q_++I)) (Df _) ⟨rfl,.inr ⟨q_,hq_,rfl⟩⟩)))))))))
end Go.Sl
namespace Go.Sl
open Go.RowKit (Below)
section
variable {P:Program}{κ:Ctx}{N:Frm}{L:Env}{I J:List Item}{l:Nat}{body:Code}{R:Ending→World→Prop}
def RB(P:Program)(l:Nat)(body:Code)(R:Ending→World→Prop):Exit→Act→World→Prop:=
 Exit.then (fun a₁ w₁=>∃w₂,(Instr.beginRound l).run P w₁ = .ok () w₂∧body.wpIn (Fence.wide.inRound l) 0 P (roundPost P l R) a₁ w₂) (fun _ _ _=>False)
theorem V.begin{r:Loop}(J:List Item)(hf:Fit κ I (recI l r::J))(hrd:r.state = .ready∧r.pending=none)(h:WR P κ N l 0 body (roundPost P l R) L (recI l {r with state:= .busy}::J)):V κ N (RB P l body R) .normal L I:=fun a w ha hs=>by
 have hs':=hf w hs
 have hl:=(hs'.ok _ List.mem_cons_self).1
 exact ⟨_,run_beginRound hl hrd.1,h a _ ha hs'.putRec⟩
theorem YieldB.mkA{r:Loop}{Post:Bool→List Item→Prop}{args:List Value}{L₀:Env}{assign:Code}(hps:args.length=r.params.size)(ha:r.assign=assign)(hb:r.body=body)
  (hag:Ag N {tmps:=(r.params.zip args.toArray).foldl (fun t (p,v)=>t.setIfInBounds p v) r.tmps,defers:=[]} L₀)
  (h:WR P κ N l 0 assign (RB P l body fun e w'=>∃b,e = .returned (.bool b)∧∃K,Post b K∧Sep κ w' K) L₀ (recI l r::I)):YieldB P κ l args (recI l r::I) Post:=fun w hs=>by
 have hl:=(hs.ok _ List.mem_cons_self).1
 subst ha hb
 exact ⟨_,_,_,_,run_yield hl (by simpa using hps),roundIn_of_wpIn trivial (h _ w hag hs)⟩
theorem ag_two{tm:Array Value}{v u:Value}{p q:Nat}(hta:Ag ⟨N.n,[]⟩ {tmps:=tm,defers:=[]} L)(hp:Nat.blt p N.n=true)(hq:Nat.blt q N.n=true):Ag ⟨N.n,[]⟩ {tmps:=(tm.setIfInBounds p v).setIfInBounds q u,defers:=[]} ((q,u)::(p,v)::L):=(hta.put p hp v).put q hq u
end
end Go.Sl
