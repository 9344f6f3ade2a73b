/- A part of the proofs of statements of this seat: contracts of functions, and the plain laws that they lean on. No conditions. -/
import Derived.Test.YtfkcohmipjhfcaaGreatDoorK16
set_option linter.unusedVariables false
set_option linter.unusedSimpArgs false
set_option linter.unusedSectionVars false
open Go.Proofs.Tryz (prog)
open List (replicate)
namespace Go.Sl
open Go.Proofs
set_option maxRecDepth 4000
variable {κ:Ctx}{I:List Item}
theorem mkF_mul{a b:Int}(h0:0<=a)(h1:0<b):(mkF a b).den*a=(mkF a b).num*b:=by
 have hg:=gcdI_pos (a:=a) h1
 have d1:gcdI a b ∣ a:=by
  obtain ⟨x,hx⟩:=Nat.gcd_dvd_left a.toNat b.toNat
  exact ⟨(x:Int),by unfold gcdI;rw [←Int.natCast_mul,←hx];omega⟩
 have d2:gcdI a b ∣ b:=by
  obtain ⟨x,hx⟩:=Nat.gcd_dvd_right a.toNat b.toNat
  exact ⟨(x:Int),by unfold gcdI;rw [←Int.natCast_mul,←hx];omega⟩
 show b / gcdI a b*a=a / gcdI a b*b
 generalize gcdI a b=g at hg d1 d2
 obtain ⟨x,rfl⟩:=d1
 obtain ⟨y,rfl⟩:=d2
 rw [Int.mul_ediv_cancel_left _ om,Int.mul_ediv_cancel_left _ om]
 rw [←Int.mul_assoc,←Int.mul_assoc,Int.mul_comm y g,Int.mul_comm x g,Int.mul_assoc,Int.mul_assoc,Int.mul_comm y x]
theorem mul_rng{x y m n:Int}(hx:0<=x/\x<=m)(hy:0<=y/\y<=n):0<=x*y/\x*y<=m*n:=⟨Int.mul_nonneg hx.1 hy.1,Int.mul_le_mul hx.2 hy.2 hy.1 om⟩
theorem cntB_le(W:BitVec 64):0<=cntB W/\cntB W<=64:=by
 have:=E5 W
 unfold cntB;omega
theorem edges_le{nd:Int}{es:List Pt}(hG:GrOk nd es):es.length<=2016:=by
 have hs:∀e∈es,e∈(List.range 64).flatMap fun (v:Nat)=>(List.range v).map fun (u:Nat)=>(⟨(u:Int),(v:Int)⟩:Pt):=λe he=>by
  have h:=hG.edge e he
  have hr:=hG.rng
  refine List.mem_flatMap.2 ⟨e.v.toNat,List.mem_range.2 om,List.mem_map.2 ⟨e.u.toNat,List.mem_range.2 om,?_⟩⟩
  rw [Pt.ext_iff']
  exact ⟨by show ((e.u.toNat:Nat):Int)=e.u;omega,by show ((e.v.toNat:Nat):Int)=e.v;omega⟩
 have hl:=List.Nodup.length_le_of_subset (asc_nodup hG.asc) hs
 have e:((List.range 64).flatMap fun (v:Nat)=>(List.range v).map fun (u:Nat)=>(⟨(u:Int),(v:Int)⟩:Pt)).length=2016:=by
  rw [List.length_flatMap]
  simp only [List.length_map,List.length_range]
  decide+kernel
 omega
structure DensR (nd:Int) (es:List Pt) (N D:Int) (B:BitVec 64):Prop where
 dens:DensP nd N D es B
 num:0<=N/\N<=2016
 den:1<=D/\D<=64
 red:∃x y:Int,(0<=x/\x<=2016)/\(1<=y/\y<=64)/\(⟨N,D⟩:Fr)=mkF x y
theorem all_sub{nd:Int}(h0:0<=nd)(h1:nd<=64):subN nd (allB nd):=λx hx=>by
 have h:=mem_listB.1 hx
 have h2:x.toNat<64:=Classical.byContradiction λhn=>by rw [BitVec.getLsbD_of_ge _ _ om] at h;cases h.2
 rw [getLsb_allB h0 h1 h2,decide_eq_true_eq] at h
 omega
theorem all_ne{nd:Int}(h0:1<=nd)(h1:nd<=64):allB nd≠0#64:=nz_listB.2 ⟨0,mem_listB.2 ⟨Int.le_refl _,by
 rw [getLsb_allB om h1 dc,decide_eq_true_eq];omega⟩⟩
theorem plainP(m:Nat)(es:List Pt):PlainP (m:Int) es (replicate es.length 1) (replicate m (default:Int)) (replicate m 1) where
 wl:=List.length_replicate
 w1:=λi hi=>at_rep _ _ _ om om
 bl:=by rw [List.length_replicate,Int.toNat_natCast]
 b0:=λi h0 h1=>by rw [at_rep _ _ _ h0 om];rfl
 cl:=by rw [List.length_replicate,Int.toNat_natCast]
 c1:=λi h0 h1=>at_rep _ _ _ h0 om
set_option maxHeartbeats 2000000 in
theorem Densest_ok{nd:Int}{ve vw vb vk:Value}{es:List Pt}{ws bs cs:List Int}(hl:Sl κ I ve es)(hw:Sl κ I vw ws)(hb:Sl κ I vb bs)(hkc:Sl κ I vk cs)(hG:GrOk nd es)(hm:es.length<=2016)(hP:PlainP nd es ws bs cs)(h1:1<=nd)(hT:TabRd κ I 0 tzCells):eu prog κ 170 [.agg #[ve,vw,vb,vk,U64 (allB nd),U64 (0#64)]] I (λr J=>∃B a c parts N D,r = .tuple #[.agg #[U64 B,.slice a (parts:List Int).length c],.agg #[e7 N,e7 D]]/\DensR nd es N D B/\SplitP nd N D es parts/\J=vc 3 (.slice a parts.length c) parts::I):=by
 have hrng:=hG.rng
 have hwl:=hP.wl
 have hbl:=hP.bl
 have hcl:=hP.cl
 refine Ce1 Tryz.func170 C C ?_
 refine Ai (Ge1 (A9 (cs:=[_,_,_,_,_,_]) C C C) λb1=>Ge1 (Au ty208 C) λb2=>Ge1 (Au ty40 C) λb3=>Af (Ai (Gf fld211_4 C (Gl ty175 ?_))))
 refine Ga C (Af (A0 (B1 (σ:=(BitVec 64)) (λs=>([(1,.pointer (some ⟨b1,0,none⟩)),(2,.pointer (some ⟨b2,0,none⟩)),(3,.pointer (some ⟨b3,0,none⟩)),(4,U64 s)]:Env)) (λs=>e8 b3 [e7 0,e7 0] 40::e8 b2 [.int .u64 0,.slice none 0 0] 208::e8 b1 [ve,vw,vb,vk,U64 (allB nd),U64 (0#64)] 211::I) (λs=>(subN nd s)/\(s≠0#64)) (λs=>8257536 - densM es s) (allB nd) (show (subN nd (allB nd:BitVec 64))/\((allB nd:BitVec 64)≠0#64) from ⟨(all_sub hrng.1 hrng.2),(all_ne h1 hrng.2)⟩) (Aa C (Aa C (Aa C (Aa (Dl C (by first|rfl|simp)) Bp)))) (show Fit κ _ (e8 b3 [e7 0,e7 0] 40::e8 b2 [.int .u64 0,.slice none 0 0] 208::e8 b1 [ve,vw,vb,vk,U64 (allB nd),U64 (0#64)] 211::I) from A1) ?_)))
 rintro wb hp
 obtain ⟨hW,hne⟩:=hp
 have hmle:=densM_le hm hne
 have hib:=insE_bd wb es
 have hcb:=cntB_pos hne
 refine A0 (Ai (Gl6 ty211 ?_))
 refine Gm C (G.e (Ah call232 C C (Gain_ok (Ba hl) (Ba hw) (Ba hb) (Ba hkc) hG hm hP wb (by first|exact hW|exact hS.sub) (Bx hT A3))) ?_)
 rintro _ _ ⟨_,_,⟨rfl,rfl⟩,rfl,rfl⟩
 refine Gm C (Gr (Aw C C) (Gr (Aw C C) (Ga C (Ga C (Af (Ai (Gm C (Gm C (Gc0 (Ah call220 C C (MakeF_ok (insE wb es) (cntB wb) om om)) ?_)))))))))
 refine Gm C ?_
 have hn1:=mkF_num (a:=insE wb es) (b:=cntB wb) om om
 have hd1:=mkF_den (a:=insE wb es) (b:=cntB wb) om
 have hmul:=mkF_mul (a:=insE wb es) (b:=cntB wb) om om
 have hred:(⟨(mkF (insE wb es) (cntB wb)).num,(mkF (insE wb es) (cntB wb)).den⟩:Fr)=mkF (insE wb es) (cntB wb):=rfl
 generalize (mkF (insE wb es) (cntB wb)).num=Nn at hn1 hmul hred ⊢
 generalize (mkF (insE wb es) (cntB wb)).den=Dd at hd1 hmul hred ⊢
 refine Gr (Aw C C) (Gr (Aw C C) (Ge1 (Au ty40 C) λb4=>Ge0 (Bq ty40) ?_))
 refine Ga C (Af (Aq (S4 7 1 2 3 C C C C) (Ai (Gl6 ty211 ?_))))
 refine Gl2 ty40 ?_
 refine G.e (Ah call233 C C (Solve_ok (Ba hl) (Ba hw) (Ba hb) (Ba hkc) hG hm hP (nu:=Nn) (de:=Dd) om om)) ?_
 rintro _ _ ⟨_,_,⟨Bn,pa,pc,parts,rfl,hS,hpl,rfl⟩,rfl,rfl⟩
 have hib2:=insE_bd Bn es
 have hcb2:=cntB_le Bn
 refine Ge1 (Au ty208 C) λb5=>Ge0 (Bq ty208) ?_
 refine Af (Ai (Gl6 ty211 ?_))
 refine Gf fld208_0 C (Gl ty175 ?_)
 refine G.e (Ah call232 C C (Gain_ok (Ba hl) (Ba hw) (Ba hb) (Ba hkc) hG hm hP Bn (by first|exact hW|exact hS.sub) (Bx hT A3))) ?_
 rintro _ _ ⟨_,_,⟨rfl,rfl⟩,rfl,rfl⟩
 refine Gm C (Gr (Aw C C) (Gr (Aw C C) (Ga C (Ga C (Af (Aq (S7 6 5 9 7 1 2 3 C C C C C C C) (Ap (Ai (Gm C (Gf fld40_1 C (Gl ef ?_)))))))))))
 refine Gr (Em C C (by unfold InR;first|omega|(have hp1:=mul_rng (x:=insE Bn es) (y:=Dd) (m:=2016) (n:=64) om om;have hp2:=mul_rng (x:=Nn) (y:=cntB Bn) (m:=2016) (n:=64) om om;omega))) (Gf fld40_0 C (Gl ef ?_))
 refine Gm C (Gr (Em C C (by unfold InR;first|omega|(have hp1:=mul_rng (x:=insE Bn es) (y:=Dd) (m:=2016) (n:=64) om om;have hp2:=mul_rng (x:=Nn) (y:=cntB Bn) (m:=2016) (n:=64) om om;omega))) (Gr (Ey C C) (Af (Aq (S6 42 9 7 1 2 3 C C C C C C) (A8 C (λc42=>?_) (λc42=>?_))))))
 ·refine Ap (Bl mixed (Bt (e8 b5 [U64 Bn,.slice pa parts.length pc] 208::vc 3 (.slice pa parts.length pc) (parts)::e8 b4 [e7 Nn,e7 Dd] 40::e8 b1 [ve,vw,vb,vk,U64 (allB nd),U64 (0#64)] 211::I) 2 (Dr 0 C (Bd (vs:=[_,_]) ty208) ?_)))
  refine Cj (rs:=[1,2]) kr C C (Dg ?_ (Ds ?_))
  ·refine Sr C (Bd (vs:=[_,_]) ty40) A1 ?_
   refine C0 kr ?_
   refine Ae 2 C (Bq ty208) ?_
   rintro _ _ ⟨rfl,rfl⟩
   refine Ae 3 C (Bq ty40) ?_
   rintro _ _ ⟨rfl,rfl⟩
   refine C1 kr ?_
   refine Aj (A2 (Am (Av (Am (Av ?_)))))
   have hdn:=hS.done hW hne hmul c42
   exact V.retcc C ty208 ty40 C C mm mm C C (vc 3 (.slice pa parts.length pc) parts::I) B7 ⟨Bn,pa,pc,parts,Nn,Dd,rfl,⟨hdn,by omega,by omega,_,_,by omega,by omega,hred⟩,splitP_of hG om hpl c42,rfl⟩
  ·refine Se0 C (Bq ty208) ?_
   refine Ds1 1 (Sr C (Bd (vs:=[_,_]) ty40) A1 ?_)
   refine Ds1 3 (Se0 C (Bq ty40) ?_)
   refine Dz (Aj (A2 (Am (Av (Am (Av ?_))))))
   have hdn:=hS.done hW hne hmul c42
   exact V.retcc C ty208 ty40 C C mm mm C C (vc 3 (.slice pa parts.length pc) parts::I) B7 ⟨Bn,pa,pc,parts,Nn,Dd,rfl,⟨hdn,by omega,by omega,_,_,by omega,by omega,hred⟩,splitP_of hG om hpl c42,rfl⟩
 ·refine Ay (Aj (Ax (Gf fld208_0 C (Gl ty175 ?_))))
  refine Ga C (Bi (Ak ?_))
  have hneB:Bn≠0#64:=pos_set (nd:=nd) (N:=Nn) (D:=Dd) (es:=es) (by have e:insE Bn es*Dd=Dd*insE Bn es:=Int.mul_comm _ _;omega)
  have hgr:=densM_grow (nd:=nd) (B:=Bn) hne om hmul c42
  have hlB:=densM_le hm hneB
  exact B5 ((Bn)) ⟨hS.sub,hneB⟩
set_option maxHeartbeats 1000000 in
theorem Plain_base{m:Nat}{ea:Option Addr}{ec:Nat}{es:List Pt}(hl:Sl κ I (.slice ea es.length ec) es)(hm:es.length<=2016)(hm64:m<=64):eu prog κ 169 [.agg #[e7 ((m:Int)),.slice ea es.length ec]] I (λr J=>∃aw cw ab cb ak ck ws bs cs,r = .agg #[.slice ea es.length ec,.slice aw (ws:List Int).length cw,.slice ab (bs:List Int).length cb,.slice ak (cs:List Int).length ck,U64 (allB (m:Int)),U64 0#64]/\PlainP (m:Int) es ws bs cs/\J=vc 3 (.slice ak cs.length ck) cs::vc 3 (.slice aw ws.length cw) ws::vc 3 (.slice ab bs.length cb) bs::I):=by
 refine B8 hl.le λhmax=>?_
 refine Ce1 Tryz.func169 C C ?_
 refine Ai (Ge1 (A9 (cs:=[_,_]) C C C) λb1=>Ge1 (Au ty211 C) λb2=>Af (W.cut (σ:=Nat×(Option Addr)×Nat) (λs=>([(1,.pointer (some ⟨b1,0,none⟩)),(2,.pointer (some ⟨b2,0,none⟩)),(3,.pointer (some ⟨s.1,0,none⟩))]:Env)) (λs=>vc 3 (.slice s.2.1 (replicate m (default:Int)).length s.2.2) (replicate m (default:Int))::e8 s.1 [.slice ea es.length ec,.slice none 0 0,.slice s.2.1 (replicate m (default:Int)).length s.2.2,.slice none 0 0,U64 (allB (m:Int)),U64 (0#64)] 211::e8 b2 [.slice none 0 0,.slice none 0 0,.slice none 0 0,.slice none 0 0,.int .u64 0,.int .u64 0] 211::e8 b1 [e7 ((m:Int)),.slice ea es.length ec] 48::I) (λs=>True) ?_ ?_))
 ·refine Bl mixed (Bt (e8 b2 [.slice none 0 0,.slice none 0 0,.slice none 0 0,.slice none 0 0,.int .u64 0,.int .u64 0] 211::e8 b1 [e7 ((m:Int)),.slice ea es.length ec] 48::I) 10 (Dr 0 C (Ab fld48_1 C) (Dr 1 C (As ty46) ?_)))
  refine Dr 2 C (Ab fld48_0 C) (Dr 3 C (As ef) ?_)
  refine Dr 5 C (Ab fld48_0 C) (Dr 6 C (As ef) ?_)
  refine Cj (rs:=[4,7,9]) kr C C (Dg ?_ (Dg ?_ (Ds ?_)))
  ·refine Sc0 C (Ah call200 C C (MaskAll_ok (m:Int))) ?_
   refine Cj (rs:=[7,9]) kr C C (Dg ?_ (Ds ?_))
   ·refine Se2 C (Cp (α:=Int) (n:=m) Ac ef C C C om om dc C) λad3 cp4=>?_
    refine Dr 8 C (Bc (cells:=[.slice ea es.length ec,.slice none 0 0,.slice ad3 (replicate m (default:Int)).length cp4,.slice none 0 0,U64 (allB (m:Int)),.int .u64 0]) ty211 D0 pl211 C kr) (Ds1 9 (Se1 C (Au ty211 C) λb5=>?_))
    refine C0 kr ?_
    refine Ae 10 C (Eo ty211) ?_
    rintro _ _ ⟨rfl,rfl⟩
    refine C1 kr ?_
    exact C9 ((b5),(ad3),(cp4)) trivial
   ·refine Se1 C (Au ty211 C) λb6=>?_
    refine Ds1 7 (Se2 C (Cp (α:=Int) (n:=m) Ac ef C C C om om dc C) λad7 cp8=>?_)
    refine Dr 8 C (Bc (cells:=[.slice ea es.length ec,.slice none 0 0,.slice ad7 (replicate m (default:Int)).length cp8,.slice none 0 0,U64 (allB (m:Int)),.int .u64 0]) ty211 D0 pl211 C kr) (C0 kr ?_)
    refine Ae 10 C (Eo ty211) ?_
    rintro _ _ ⟨rfl,rfl⟩
    refine C1 kr ?_
    exact C9 ((b6),(ad7),(cp8)) trivial
  ·refine Se2 C (Cp (α:=Int) (n:=m) Ac ef C C C om om dc C) λad9 cp10=>?_
   refine Cj (rs:=[4,9]) kr C C (Dg ?_ (Ds ?_))
   ·refine Sc0 C (Ah call200 C C (MaskAll_ok (m:Int))) ?_
    refine Dr 8 C (Bc (cells:=[.slice ea es.length ec,.slice none 0 0,.slice ad9 (replicate m (default:Int)).length cp10,.slice none 0 0,U64 (allB (m:Int)),.int .u64 0]) ty211 D0 pl211 C kr) (Ds1 9 (Se1 C (Au ty211 C) λb11=>?_))
    refine C0 kr ?_
    refine Ae 10 C (Eo ty211) ?_
    rintro _ _ ⟨rfl,rfl⟩
    refine C1 kr ?_
    exact C9 ((b11),(ad9),(cp10)) trivial
   ·refine Se1 C (Au ty211 C) λb12=>?_
    refine Ds1 4 (Sc0 C (Ah call200 C C (MaskAll_ok (m:Int))) ?_)
    refine Dr 8 C (Bc (cells:=[.slice ea es.length ec,.slice none 0 0,.slice ad9 (replicate m (default:Int)).length cp10,.slice none 0 0,U64 (allB (m:Int)),.int .u64 0]) ty211 D0 pl211 C kr) (C0 kr ?_)
    refine Ae 10 C (Eo ty211) ?_
    rintro _ _ ⟨rfl,rfl⟩
    refine C1 kr ?_
    exact C9 ((b12),(ad9),(cp10)) trivial
  ·refine Se1 C (Au ty211 C) λb13=>?_
   refine Cj (rs:=[4,7]) kr C C (Dg ?_ (Ds ?_))
   ·refine Sc0 C (Ah call200 C C (MaskAll_ok (m:Int))) ?_
    refine Ds1 7 (Se2 C (Cp (α:=Int) (n:=m) Ac ef C C C om om dc C) λad14 cp15=>?_)
    refine Dr 8 C (Bc (cells:=[.slice ea es.length ec,.slice none 0 0,.slice ad14 (replicate m (default:Int)).length cp15,.slice none 0 0,U64 (allB (m:Int)),.int .u64 0]) ty211 D0 pl211 C kr) (C0 kr ?_)
    refine Ae 10 C (Eo ty211) ?_
    rintro _ _ ⟨rfl,rfl⟩
    refine C1 kr ?_
    exact C9 ((b13),(ad14),(cp15)) trivial
   ·refine Se2 C (Cp (α:=Int) (n:=m) Ac ef C C C om om dc C) λad16 cp17=>?_
    refine Ds1 4 (Sc0 C (Ah call200 C C (MaskAll_ok (m:Int))) ?_)
    refine Dr 8 C (Bc (cells:=[.slice ea es.length ec,.slice none 0 0,.slice ad16 (replicate m (default:Int)).length cp17,.slice none 0 0,U64 (allB (m:Int)),.int .u64 0]) ty211 D0 pl211 C kr) (C0 kr ?_)
    refine Ae 10 C (Eo ty211) ?_
    rintro _ _ ⟨rfl,rfl⟩
    refine C1 kr ?_
    exact C9 ((b13),(ad16),(cp17)) trivial
 ·rintro ⟨pb,ab,cb⟩ hp
  show W prog κ 35 _ _ ([(1,.pointer (some ⟨b1,0,none⟩)),(2,.pointer (some ⟨b2,0,none⟩)),(3,.pointer (some ⟨pb,0,none⟩))]:Env) (vc 3 (.slice ab (replicate m (default:Int)).length cb) (replicate m (default:Int))::e8 pb [.slice ea es.length ec,.slice none 0 0,.slice ab (replicate m (default:Int)).length cb,.slice none 0 0,U64 (allB (m:Int)),U64 (0#64)] 211::e8 b2 [.slice none 0 0,.slice none 0 0,.slice none 0 0,.slice none 0 0,.int .u64 0,.int .u64 0] 211::e8 b1 [e7 ((m:Int)),.slice ea es.length ec] 48::I)
  refine Ap (Ai (Gf fld48_1 C (Gl ty46 ?_)))
  refine Gr (Bs Bh C) (Gm C (Af (A0 (B1 (σ:=Nat×(Option Addr)×Nat×(List Int)) (λs=>([(1,.pointer (some ⟨b1,0,none⟩)),(2,.pointer (some ⟨b2,0,none⟩)),(3,.pointer (some ⟨pb,0,none⟩)),(15,e7 ((es.length:Nat):Int)),(16,e7 ((s.1:Nat):Int))]:Env)) (λs=>vc 3 (.slice s.2.1 s.2.2.2.length s.2.2.1) (s.2.2.2)::vc 3 (.slice ab (replicate m (default:Int)).length cb) (replicate m (default:Int))::e8 pb [.slice ea es.length ec,.slice s.2.1 s.2.2.2.length s.2.2.1,.slice ab (replicate m (default:Int)).length cb,.slice none 0 0,U64 (allB (m:Int)),U64 (0#64)] 211::e8 b2 [.slice none 0 0,.slice none 0 0,.slice none 0 0,.slice none 0 0,.int .u64 0,.int .u64 0] 211::e8 b1 [e7 ((m:Int)),.slice ea es.length ec] 48::I) (λs=>(s.1<=es.length)/\(s.2.2.2=replicate s.1 1)) (λs=>es.length - s.1) (0,none,0,[]) (show ((0:Nat)<=es.length)/\(([]:List Int)=replicate (0:Nat) 1) from ⟨om,rfl⟩) (Aa C (Aa C (Aa C (Aa C (Aa Ca Bp))))) (show Fit κ _ (vc 3 (.slice none ([]).length 0) (([]))::vc 3 (.slice ab (replicate m (default:Int)).length cb) (replicate m (default:Int))::e8 pb [.slice ea es.length ec,.slice none ([]).length 0,.slice ab (replicate m (default:Int)).length cb,.slice none 0 0,U64 (allB (m:Int)),U64 (0#64)] 211::e8 b2 [.slice none 0 0,.slice none 0 0,.slice none 0 0,.slice none 0 0,.int .u64 0,.int .u64 0] 211::e8 b1 [e7 ((m:Int)),.slice ea es.length ec] 48::I) from (B2 _ _)) ?_))))
  rintro ⟨k,aw,cw,ws⟩ hp
  dsimp only at hp ⊢
  obtain ⟨hk,hws⟩:=hp
  have hwsl:ws.length=k:=by rw [hws,List.length_replicate]
  refine Ai (Gr (A7 C C) (Af (Ap (A8 C (λc17=>?_) (λc17=>?_)))))
  ·refine Ay (Aj (Ap (A0 (Ax (Gf fld211_1 C (Gl ty22 ?_))))))
   refine Ge1 (Cf (α:=Int) (cs:=[_]) (xs:=[1]) Ac ef C C dc dc C C C C) λad18=>?_
   refine Ge2 (Cm (α:=Int) (e:=3) (xs:=ws) (ys:=([1]:List Int)) Ac ef C C C mm Bk lcn dc C (λ_ _=>am)) λad19 cp20=>?_
   refine Gf fld211_1 C (Ge0 (Es6_1 ty22) ?_)
   exact Bi (Ak (Aj (Ax (Gr (Rad C C) (Gm C (Bi (B5 ((k+1),(ad19),(cp20),(ws++([1]:List Int))) (by dsimp only;exact ⟨om,(by rw [hws,List.replicate_succ'])⟩))))))))
  ·refine Bv (Al (Al (A5 (Aj (Ap (Ai (Gf fld48_0 C (Gl ef ?_))))))))
   refine Gm C (Af (A0 (B1 (σ:=Nat×(Option Addr)×Nat×(List Int)) (λs=>([(2,.pointer (some ⟨b2,0,none⟩)),(3,.pointer (some ⟨pb,0,none⟩)),(25,e7 ((m:Int))),(26,e7 ((s.1:Nat):Int))]:Env)) (λs=>vc 3 (.slice s.2.1 s.2.2.2.length s.2.2.1) (s.2.2.2)::vc 3 (.slice aw ws.length cw) (ws)::vc 3 (.slice ab (replicate m (default:Int)).length cb) (replicate m (default:Int))::e8 pb [.slice ea es.length ec,.slice aw ws.length cw,.slice ab (replicate m (default:Int)).length cb,.slice s.2.1 s.2.2.2.length s.2.2.1,U64 (allB (m:Int)),U64 (0#64)] 211::e8 b2 [.slice none 0 0,.slice none 0 0,.slice none 0 0,.slice none 0 0,.int .u64 0,.int .u64 0] 211::e8 b1 [e7 ((m:Int)),.slice ea es.length ec] 48::I) (λs=>(s.1<=m)/\(s.2.2.2=replicate s.1 1)) (λs=>m - s.1) (0,none,0,[]) (show ((0:Nat)<=m)/\(([]:List Int)=replicate (0:Nat) 1) from ⟨om,rfl⟩) (Aa C (Aa C (Aa C (Aa Ca Bp)))) (show Fit κ _ (vc 3 (.slice none ([]).length 0) (([]))::vc 3 (.slice aw ws.length cw) (ws)::vc 3 (.slice ab (replicate m (default:Int)).length cb) (replicate m (default:Int))::e8 pb [.slice ea es.length ec,.slice aw ws.length cw,.slice ab (replicate m (default:Int)).length cb,.slice none ([]).length 0,U64 (allB (m:Int)),U64 (0#64)] 211::e8 b2 [.slice none 0 0,.slice none 0 0,.slice none 0 0,.slice none 0 0,.int .u64 0,.int .u64 0] 211::e8 b1 [e7 ((m:Int)),.slice ea es.length ec] 48::I) from (B2 _ _)) ?_)))
   rintro ⟨k2,ak,ck,cs⟩ hp
   dsimp only at hp ⊢
   obtain ⟨hk2,hcs⟩:=hp
   have hcsl:cs.length=k2:=by rw [hcs,List.length_replicate]
   refine Ai (Gr (A7 C C) (Af (Ap (A8 C (λc27=>?_) (λc27=>?_)))))
   ·refine Ay (Aj (Ap (A0 (Ax (Gf fld211_3 C (Gl ty22 ?_))))))
    refine Ge1 (Cf (α:=Int) (cs:=[_]) (xs:=[1]) Ac ef C C dc dc C C C C) λad21=>?_
    refine Ge2 (Cm (α:=Int) (e:=3) (xs:=cs) (ys:=([1]:List Int)) Ac ef C C C mm Bk lcn dc C (λ_ _=>am)) λad22 cp23=>?_
    refine Gf fld211_3 C (Ge0 (Es6_1 ty22) ?_)
    exact Bi (Ak (Aj (Ax (Gr (Rad C C) (Gm C (Bi (B5 ((k2+1),(ad22),(cp23),(cs++([1]:List Int))) (by dsimp only;exact ⟨om,(by rw [hcs,List.replicate_succ'])⟩))))))))
   ·refine Bv (Al (Al (A5 (Aj (Ai (Gl6 ty211 ?_))))))
    refine Ge0 (Eo ty211) ?_
    refine Af (A2 ?_)
    have hP:=plainP m es
    have hws2:ws=replicate es.length 1:=by rw [hws,show k=es.length by omega]
    have hcs2:cs=replicate m 1:=by rw [hcs,show k2=m by omega]
    exact C5 C ty211 C mm C (vc 3 (.slice ak cs.length ck) cs::vc 3 (.slice aw ws.length cw) ws::vc 3 (.slice ab (replicate m (default:Int)).length cb) (replicate m (default:Int))::I) B7 ⟨aw,cw,ab,cb,ak,ck,ws,replicate m (default:Int),cs,rfl,by rw [hws2,hcs2];exact hP,rfl⟩
theorem Plain_ok{nd:Int}{ea:Option Addr}{ec:Nat}{es:List Pt}(hl:Sl κ I (.slice ea es.length ec) es)(hm:es.length<=2016)(hr:0<=nd/\nd<=64):eu prog κ 169 [.agg #[e7 nd,.slice ea es.length ec]] I λr J=>∃aw cw ab cb ak ck ws bs cs,r = .agg #[.slice ea es.length ec,.slice aw (ws:List Int).length cw,.slice ab (bs:List Int).length cb,.slice ak (cs:List Int).length ck,U64 (allB nd),U64 0#64]/\PlainP nd es ws bs cs/\J=vc 3 (.slice ak cs.length ck) cs::vc 3 (.slice aw ws.length cw) ws::vc 3 (.slice ab bs.length cb) bs::I:=by
 obtain ⟨m,rfl⟩:=Int.eq_ofNat_of_zero_le hr.1
 exact Plain_base hl hm om
variable {κ:Ctx}{I:List Item}
theorem evmod{s x N:Int}(h1:0<=s)(h2:s<N)(h3:0<=x)(h4:x<N - 1):(0<=Int.tmod (s+1+x) N/\Int.tmod (s+1+x) N<N)/\s≠Int.tmod (s+1+x) N:=by
 rw [Int.tmod_eq_emod_of_nonneg om]
 by_cases h:s+1+x<N
 ·rw [Int.emod_eq_of_lt om h];omega
 ·rw [show s+1+x=(s+1+x - N)+N by omega,Int.add_emod_right,Int.emod_eq_of_lt om om];omega
theorem fit_mk{n kd tm u v w lb sg:Int}(hk:1<=kd/\kd<=3)(ht:0<=tm/\tm<=1048576)(hu:0<=u/\u<n)(hn:n<=64)(hv:kd=3->v=0)(hv2:kd≠3->(0<=v/\v<n)/\u≠v)(hr:kd=1->rightW w lb sg)(hz:kd≠1->w=0/\lb=0/\sg=0):FitOk n ⟨kd,tm,u,v,w,lb,sg⟩:=
 ⟨hk,ht,⟨by show 0<=u/\u<64;omega,hv,λh=>by have:=hv2 h;show (0<=v/\v<64)/\u≠v;omega⟩,hr,by
  show u<n/\v<n
  by_cases h:kd=3
  ·have:=hv h;omega
  ·have:=hv2 h;omega,hz⟩
structure EvOk (n tt:Int) (es:List Ev):Prop where
 fit:∀e∈es,FitOk n e
 tm:∀e∈es,e.tm<=tt
 asc:∀j:Nat,j<es.length->lastT es j<=(e_ es j).tm
theorem EvOk.nil{n tt:Int}:EvOk n tt []:=⟨λe h=>(by cases h),λe h=>(by cases h),λj h=>absurd h (Nat.not_lt_zero _)⟩
theorem EvOk.later{n tt ty:Int}{es:List Ev}(h:EvOk n tt es)(ht:tt<=ty):EvOk n ty es:=⟨h.fit,λe he=>by have:=h.tm e he;omega,h.asc⟩
theorem EvOk.push{n tt:Int}{es:List Ev}{e:Ev}(h:EvOk n tt es)(hf:FitOk n e)(ht:e.tm=tt):EvOk n tt (es++[e]):=by
 refine ⟨λx hx=>?_,λx hx=>?_,λj hj=>?_⟩
 ·rcases List.mem_append.1 hx with hx|hx
  ·exact h.fit x hx
  ·rw [List.mem_singleton.1 hx];exact hf
 ·rcases List.mem_append.1 hx with hx|hx
  ·exact h.tm x hx
  ·rw [List.mem_singleton.1 hx];omega
 ·have hl:lastT (es++[e]) j=lastT es j:=by
   unfold lastT
   split
   ·rfl
   ·rw [List.length_append,List.length_singleton] at hj
    rw [show (j:Int) - 1=((j - 1:Nat):Int) by omega,at_append_left es [e] (j - 1) om]
  rw [hl]
  by_cases hje:j<es.length
  ·rw [at_append_left es [e] j hje];exact h.asc j hje
  ·obtain rfl:j=es.length:=by rw [List.length_append,List.length_singleton] at hj;omega
   rw [at_last,ht]
   unfold lastT
   split
   ·rw [←ht];exact hf.tm.1
   ·rw [show (es.length:Int) - 1=((es.length - 1:Nat):Int) by omega];exact h.tm _ (Bf om om)
theorem EvOk.st{n tt:Int}{es:List Ev}(h:EvOk n tt es)(hn:0<=n/\n<=64)(hl:es.length<=65536):StOk n es:=⟨hn,hl,λj hj=>h.fit _ (Bf om om),h.asc⟩
theorem streamS_ok{nd:Int}{es:List Ev}(hf:∀j:Nat,j<es.length->FitOk nd (e_ es j))(ha:∀j:Nat,j<es.length->lastT es j<=(e_ es j).tm):∀m k:Nat,k+m=es.length->streamS nd (lastT es k) (es.drop k)=0
 |0,k,h=>streamS_end om
 |m+1,k,h=>by
  rw [streamS_step om (fitE_ok.2 (hf k om)) (by have:=ha k om;omega)]
  exact streamS_ok hf ha m (k+1) om
set_option maxHeartbeats 2000000 in
theorem MkEvent_base{b:Nat}{lv:Value}{ls:List Int}{i:Int}{n t:Int}(hl:∀q,Sl κ (deck b lv q::I) lv ls)(h0:0<=i)(hn:2<=n/\n<=64)(ht:0<=t/\t<=1000000):eu prog κ 77 [.pointer (some ⟨b,0,none⟩),e7 n,e7 t] (e8 b [lv,e7 i] 125::I) (λr J=>∃y:Ev×Int,((r = .agg #[e7 y.1.kd,e7 y.1.tm,e7 y.1.u,e7 y.1.v,e7 y.1.w,e7 y.1.lb,e7 y.1.sg]/\FitOk n y.1/\y.1.tm=t)/\0<=y.2)/\J=[]++deck b lv y.2::I):=by
 refine Ce3 Tryz.func77 C C ?_
 refine Ai (Ge1 (Au ty108 C) λb1=>Af (Ai (Gm C (Gm C (Gm C (G.e (Ah call19 C C (Next_ok (by repeat (first|exact AtF.head _ _|apply AtF.tail)) (Cv (hl _) A3) om om)) ?_))))))
 rintro _ _ ⟨_,_,⟨x2,i3,rfl,hx2,hi3,rfl⟩,rfl,rfl⟩
 show G prog κ _ _ _ _ ([(12,e7 x2),(11,e7 n),(10,.pointer (some ⟨b,0,none⟩)),(9,e7 t),(6,.pointer (some ⟨b1,0,none⟩)),(0,.pointer (some ⟨b,0,none⟩)),(1,e7 n),(2,e7 t)]:Env) (e8 b1 [e7 0,e7 0,e7 0,e7 0,e7 0,e7 0,e7 0] 108::e8 b [lv,e7 i3] 125::I)
 refine Gr (Bc (cells:=[_,_,_,_,_,_,_]) ty108 D1 pl108 C C) (Ge1 (Au ty108 C) λb4=>Ge0 (Es7_7 ty108) ?_)
 refine Af (W.cut (σ:=Int×Int) (λs=>([(0,.pointer (some ⟨b,0,none⟩)),(2,e7 t),(6,.pointer (some ⟨b1,0,none⟩)),(7,.pointer (some ⟨b4,0,none⟩))]:Env)) (λs=>e8 b4 [e7 1,e7 t,e7 x2,e7 (s.1),e7 0,e7 0,e7 0] 108::e8 b1 [e7 0,e7 0,e7 0,e7 0,e7 0,e7 0,e7 0] 108::e8 b [lv,e7 (s.2)] 125::I) (λs=>((0<=s.1/\s.1<n)/\x2≠s.1)/\(0<=s.2)) ?_ ?_)
 ·refine Bl mixed (Bt (e8 b1 [e7 0,e7 0,e7 0,e7 0,e7 0,e7 0,e7 0] 108::I) 12 (Dr 0 C (Ab fld108_2 C) (Dr 3 C (Ad C) (Dr 4 C (Ad C) (Dr 5 C (Rsu C C) (Dr 8 C (Ad C) (Cj (rs:=[1,6]) kr C C (Dg ?_ (Ds ?_)))))))))
  ·refine Sr C (As ef) A1 ?_
   refine Dr 2 C (Rad C C) (Ds1 6 (Se C (Ah call19 C C (Next_ok (by repeat (first|exact AtF.head _ _|apply AtF.tail)) (Cv (hl _) A3) om om)) ?_))
   rintro _ _ ⟨_,_,⟨x5,i6,rfl,hx5,hi6,rfl⟩,rfl,rfl⟩
   refine ⟨A1,?_⟩
   show D prog κ _ _ _ _ _ _ _ ([(20,e7 x5),(16,e7 (x2+1)),(15,e7 x2),(22,e7 n),(19,e7 (n - 1)),(18,e7 n),(17,.pointer (some ⟨b,0,none⟩)),(14,.pointer (some ⟨b4,2,none⟩)),(7,.pointer (some ⟨b4,0,none⟩)),(13,.agg #[e7 1,e7 t,e7 x2,e7 0,e7 0,e7 0,e7 0]),(12,e7 x2),(11,e7 n),(10,.pointer (some ⟨b,0,none⟩)),(9,e7 t),(6,.pointer (some ⟨b1,0,none⟩)),(0,.pointer (some ⟨b,0,none⟩)),(1,e7 n),(2,e7 t)]:Env) (e8 b4 [e7 1,e7 t,e7 x2,e7 0,e7 0,e7 0,e7 0] 108::e8 b1 [e7 0,e7 0,e7 0,e7 0,e7 0,e7 0,e7 0] 108::e8 b [lv,e7 i6] 125::I)
   refine Dr 7 C (Rad C C) (Dr 9 C (Runs.rem C C om) (Dr 10 C (Ab fld108_3 C) (Ds1 11 (Se0 C (D8 ef) ?_))))
   refine Dz ?_
   have htm:=evmod (s:=x2) (x:=x5) (N:=n) om om om om
   exact C9 ((Int.tmod ((x2+1)+x5) n),(i6)) (by dsimp only;exact ⟨htm,om⟩)
  ·refine Se C (Ah call19 C C (Next_ok (by repeat (first|exact AtF.head _ _|apply AtF.tail)) (Cv (hl _) A3) om om)) ?_
   rintro _ _ ⟨_,_,⟨x7,i8,rfl,hx7,hi8,rfl⟩,rfl,rfl⟩
   refine ⟨A1,?_⟩
   show D prog κ _ _ _ _ _ _ _ ([(20,e7 x7),(22,e7 n),(19,e7 (n - 1)),(18,e7 n),(17,.pointer (some ⟨b,0,none⟩)),(14,.pointer (some ⟨b4,2,none⟩)),(7,.pointer (some ⟨b4,0,none⟩)),(13,.agg #[e7 1,e7 t,e7 x2,e7 0,e7 0,e7 0,e7 0]),(12,e7 x2),(11,e7 n),(10,.pointer (some ⟨b,0,none⟩)),(9,e7 t),(6,.pointer (some ⟨b1,0,none⟩)),(0,.pointer (some ⟨b,0,none⟩)),(1,e7 n),(2,e7 t)]:Env) (e8 b4 [e7 1,e7 t,e7 x2,e7 0,e7 0,e7 0,e7 0] 108::e8 b1 [e7 0,e7 0,e7 0,e7 0,e7 0,e7 0,e7 0] 108::e8 b [lv,e7 i8] 125::I)
   refine Ds1 1 (Sr C (As ef) A1 ?_)
   refine Dr 2 C (Rad C C) (Dr 7 C (Rad C C) (Dr 9 C (Runs.rem C C om) (Dr 10 C (Ab fld108_3 C) (Ds1 11 (Se0 C (D8 ef) ?_)))))
   refine Dz ?_
   have htm:=evmod (s:=x2) (x:=x7) (N:=n) om om om om
   exact C9 ((Int.tmod ((x2+1)+x7) n),(i8)) (by dsimp only;exact ⟨htm,om⟩)
 ·rintro ⟨vv,i9⟩ hp
  obtain ⟨hvv,hi9⟩:((0<=vv/\vv<n)/\x2≠vv)/\(0<=i9):=hp
  show W prog κ 56 _ _ ([(0,.pointer (some ⟨b,0,none⟩)),(2,e7 t),(6,.pointer (some ⟨b1,0,none⟩)),(7,.pointer (some ⟨b4,0,none⟩))]:Env) (e8 b4 [e7 1,e7 t,e7 x2,e7 vv,e7 0,e7 0,e7 0] 108::e8 b1 [e7 0,e7 0,e7 0,e7 0,e7 0,e7 0,e7 0] 108::e8 b [lv,e7 i9] 125::I)
  refine Ap (Ai (Gm C (G.e (Ah call19 C C (Next_ok (by repeat (first|exact AtF.head _ _|apply AtF.tail)) (Cv (hl _) A3) om om)) ?_)))
  rintro _ _ ⟨_,_,⟨x9,i10,rfl,hx9,hi10,rfl⟩,rfl,rfl⟩
  show G prog κ _ _ _ _ ([(26,e7 x9),(25,.pointer (some ⟨b,0,none⟩)),(0,.pointer (some ⟨b,0,none⟩)),(2,e7 t),(6,.pointer (some ⟨b1,0,none⟩)),(7,.pointer (some ⟨b4,0,none⟩))]:Env) (e8 b4 [e7 1,e7 t,e7 x2,e7 vv,e7 0,e7 0,e7 0] 108::e8 b1 [e7 0,e7 0,e7 0,e7 0,e7 0,e7 0,e7 0] 108::e8 b [lv,e7 i10] 125::I)
  refine Ga C (Af (A0 (Ai (Gm C (Gr (B9 C C) (Ga C (Af (A8 C (λc27=>?_) (λc27=>?_)))))))))
  ·refine Ai (Gm C (Gf fld108_2 C (Gl ef ?_)))
   refine Gr (Bc (cells:=[_,_,_,_,_,_,_]) ty108 D1 pl108 C C) (Ge0 (Es7_7 ty108) ?_)
   exact Af (Aq (S1 6 C) (A2 (Av (Am (C5 C ty108 C mm C (e8 b [lv,e7 i10] 125::I) A1 ⟨(⟨3,t,x2,0,0,0,0⟩,i10),⟨⟨rfl,fit_mk om om om om (λh=>by omega) (λh=>by omega) (λh=>by unfold rightW;omega) (λh=>by omega),rfl⟩,by show 0<=i10;omega⟩,rfl⟩)))))
  ·refine Ai (Gm C (Gr (B9 C C) (Ga C (Af (A8 C (λc34=>?_) (λc34=>?_))))))
   ·refine Ai (Gm C (Gf fld108_2 C (Gl ef ?_)))
    refine Gf fld108_3 C (Gl ef ?_)
    refine Gr (Bc (cells:=[_,_,_,_,_,_,_]) ty108 D1 pl108 C C) (Ge0 (Es7_7 ty108) ?_)
    exact Af (Aq (S1 6 C) (A2 (Av (Am (C5 C ty108 C mm C (e8 b [lv,e7 i10] 125::I) A1 ⟨(⟨2,t,x2,vv,0,0,0⟩,i10),⟨⟨rfl,fit_mk om om om om (λh=>by omega) (λh=>by omega) (λh=>by unfold rightW;omega) (λh=>by omega),rfl⟩,by show 0<=i10;omega⟩,rfl⟩)))))
   ·refine Ay (Ak (Aj (Ai (Gm C (G.e (Ah call19 C C (Next_ok (by repeat (first|exact AtF.head _ _|apply AtF.tail)) (Cv (hl _) A3) om om)) ?_)))))
    rintro _ _ ⟨_,_,⟨x11,i12,rfl,hx11,hi12,rfl⟩,rfl,rfl⟩
    show G prog κ _ _ _ _ ([(44,e7 x11),(43,.pointer (some ⟨b,0,none⟩)),(34,.bool (decide (5<=x9))),(36,.bool (decide (5<=x9))),(35,e7 x9),(27,.bool (decide (8<=x9))),(29,.bool (decide (8<=x9))),(28,e7 x9),(8,e7 x9),(26,e7 x9),(25,.pointer (some ⟨b,0,none⟩)),(0,.pointer (some ⟨b,0,none⟩)),(2,e7 t),(6,.pointer (some ⟨b1,0,none⟩)),(7,.pointer (some ⟨b4,0,none⟩))]:Env) (e8 b4 [e7 1,e7 t,e7 x2,e7 vv,e7 0,e7 0,e7 0] 108::e8 b1 [e7 0,e7 0,e7 0,e7 0,e7 0,e7 0,e7 0] 108::e8 b [lv,e7 i12] 125::I)
    refine Gr (Rad C C) (Gm C (G.e (Ah call19 C C (Next_ok (by repeat (first|exact AtF.head _ _|apply AtF.tail)) (Cv (hl _) A3) om om)) ?_))
    rintro _ _ ⟨_,_,⟨x13,i14,rfl,hx13,hi14,rfl⟩,rfl,rfl⟩
    show G prog κ _ _ _ _ ([(47,e7 x13),(46,.pointer (some ⟨b,0,none⟩)),(45,e7 (1+x11)),(44,e7 x11),(43,.pointer (some ⟨b,0,none⟩)),(34,.bool (decide (5<=x9))),(36,.bool (decide (5<=x9))),(35,e7 x9),(27,.bool (decide (8<=x9))),(29,.bool (decide (8<=x9))),(28,e7 x9),(8,e7 x9),(26,e7 x9),(25,.pointer (some ⟨b,0,none⟩)),(0,.pointer (some ⟨b,0,none⟩)),(2,e7 t),(6,.pointer (some ⟨b1,0,none⟩)),(7,.pointer (some ⟨b4,0,none⟩))]:Env) (e8 b4 [e7 1,e7 t,e7 x2,e7 vv,e7 0,e7 0,e7 0] 108::e8 b1 [e7 0,e7 0,e7 0,e7 0,e7 0,e7 0,e7 0] 108::e8 b [lv,e7 i14] 125::I)
    refine Gm C (G.e (Ah call19 C C (Next_ok (by repeat (first|exact AtF.head _ _|apply AtF.tail)) (Cv (hl _) A3) om om)) ?_)
    rintro _ _ ⟨_,_,⟨x15,i16,rfl,hx15,hi16,rfl⟩,rfl,rfl⟩
    show G prog κ _ _ _ _ ([(49,e7 x15),(48,.pointer (some ⟨b,0,none⟩)),(47,e7 x13),(46,.pointer (some ⟨b,0,none⟩)),(45,e7 (1+x11)),(44,e7 x11),(43,.pointer (some ⟨b,0,none⟩)),(34,.bool (decide (5<=x9))),(36,.bool (decide (5<=x9))),(35,e7 x9),(27,.bool (decide (8<=x9))),(29,.bool (decide (8<=x9))),(28,e7 x9),(8,e7 x9),(26,e7 x9),(25,.pointer (some ⟨b,0,none⟩)),(0,.pointer (some ⟨b,0,none⟩)),(2,e7 t),(6,.pointer (some ⟨b1,0,none⟩)),(7,.pointer (some ⟨b4,0,none⟩))]:Env) (e8 b4 [e7 1,e7 t,e7 x2,e7 vv,e7 0,e7 0,e7 0] 108::e8 b1 [e7 0,e7 0,e7 0,e7 0,e7 0,e7 0,e7 0] 108::e8 b [lv,e7 i16] 125::I)
    refine Gr (Em C C (by unfold InR;omega)) (Gr (Rsu C C) (Gf fld108_4 C (Ge0 (D8 ef) ?_)))
    refine Gf fld108_5 C (Ge0 (D8 ef) ?_)
    refine Gf fld108_6 C (Ge0 (D8 ef) ?_)
    refine Af (Aq (S2 6 7 C C) (Ai (Gl7 ty108 ?_)))
    refine Ge0 (Es7_7 ty108) ?_
    exact Af (A2 (C5 C ty108 C mm C (e8 b [lv,e7 i16] 125::I) A1 ⟨(⟨1,t,x2,vv,1+x11,x13,1 - (2*x15)⟩,i16),⟨⟨rfl,fit_mk om om om om (λh=>by omega) (λh=>by omega) (λh=>by unfold rightW;omega) (λh=>by omega),rfl⟩,by show 0<=i16;omega⟩,rfl⟩))
theorem MkEvent_at{F:Item->List Item}{b:Nat}{lv:Value}{ls:List Int}{i:Int}{n t:Int}(hat:AtF I (deck b lv i) F)(hl:∀q,Sl κ (F (deck b lv q)) lv ls)(h0:0<=i)(hn:2<=n/\n<=64)(ht:0<=t/\t<=1000000):eu prog κ 77 [.pointer (some ⟨b,0,none⟩),e7 n,e7 t] I λr J=>∃y:Ev×Int,((r = .agg #[e7 y.1.kd,e7 y.1.tm,e7 y.1.u,e7 y.1.v,e7 y.1.w,e7 y.1.lb,e7 y.1.sg]/\FitOk n y.1/\y.1.tm=t)/\0<=y.2)/\J=[]++F (deck b lv y.2):=
 En (Post:=λr (y:Ev×Int)=>(r = .agg #[e7 y.1.kd,e7 y.1.tm,e7 y.1.u,e7 y.1.v,e7 y.1.w,e7 y.1.lb,e7 y.1.sg]/\FitOk n y.1/\y.1.tm=t)/\0<=y.2) (Z:=λy:Ev×Int=>[]) (X:=λy:Ev×Int=>deck b lv y.2) hat λJ _ hF=>MkEvent_base (λq=>(hl q).fit (hF _)) h0  hn ht
set_option maxHeartbeats 2000000 in
theorem MkEvents_base{b:Nat}{lv:Value}{ls:List Int}{i:Int}{n most:Int}(hl:∀q,Sl κ (deck b lv q::I) lv ls)(h0:0<=i)(hn:2<=n/\n<=64)(hm:0<=most/\most<=20):eu prog κ 20 [.pointer (some ⟨b,0,none⟩),e7 n,e7 most] (e8 b [lv,e7 i] 125::I) (λr J=>∃y:(Option Addr)×Nat×(List Ev)×Int,((r = .slice y.1 y.2.2.1.length y.2.1/\(EvOk n 500 y.2.2.1/\(y.2.2.1.length:Int)<=most))/\0<=y.2.2.2)/\J=[vc 108 (.slice y.1 y.2.2.1.length y.2.1) y.2.2.1]++deck b lv y.2.2.2::I):=by
 refine Ce3 Tryz.func20 C C ?_
 refine Ai (Ga C (Af (Ai (Ga C (Af (Ai (Gm C (G.e (Ah call19 C C (Next_ok (by repeat (first|exact AtF.head _ _|apply AtF.tail)) (Cv (hl _) A3) om om)) ?_))))))))
 rintro _ _ ⟨_,_,⟨x1,i2,rfl,hx1,hi2,rfl⟩,rfl,rfl⟩
 show G prog κ _ _ _ _ ([(11,e7 x1),(10,.pointer (some ⟨b,0,none⟩)),(7,.slice none 0 0),(6,.slice none 0 0),(0,.pointer (some ⟨b,0,none⟩)),(1,e7 n),(2,e7 most)]:Env) (e8 b [lv,e7 i2] 125::I)
 refine Ga C (Af (Ap (Ai (Gm C (Gm C (Gr (Rad C C) (G.e (Ah call19 C C (Next_ok (by repeat (first|exact AtF.head _ _|apply AtF.tail)) (Cv (hl _) A3) om om)) ?_)))))))
 rintro _ _ ⟨_,_,⟨x3,i4,rfl,hx3,hi4,rfl⟩,rfl,rfl⟩
 show G prog κ _ _ _ _ ([(15,e7 x3),(14,e7 (most+1)),(13,e7 most),(12,.pointer (some ⟨b,0,none⟩)),(8,e7 x1),(11,e7 x1),(10,.pointer (some ⟨b,0,none⟩)),(7,.slice none 0 0),(6,.slice none 0 0),(0,.pointer (some ⟨b,0,none⟩)),(1,e7 n),(2,e7 most)]:Env) (e8 b [lv,e7 i4] 125::I)
 refine Ga C (Af (A0 (B1 (σ:=Int×Int×(Option Addr)×Nat×(List Ev)×Int) (λs=>([(0,.pointer (some ⟨b,0,none⟩)),(1,e7 n),(7,.slice s.2.2.1 s.2.2.2.2.1.length s.2.2.2.1),(8,e7 (s.2.2.2.2.2)),(9,e7 (s.1))]:Env)) (λs=>vc 108 (.slice s.2.2.1 s.2.2.2.2.1.length s.2.2.2.1) (s.2.2.2.2.1)::e8 b [lv,e7 (s.2.1)] 125::I) (λs=>(0<=s.1/\(s.2.2.2.2.1.length:Int)+s.1<=most)/\(0<=s.2.1)/\(EvOk n s.2.2.2.2.2 s.2.2.2.2.1)/\(0<=s.2.2.2.2.2/\s.2.2.2.2.2<=3+3*(s.2.2.2.2.1.length:Int))) (λs=>s.1.toNat) (x3,i4,none,0,[],x1) (show (0<=(x3:Int)/\(([]:List Ev).length:Int)+(x3:Int)<=most)/\(0<=(i4:Int))/\(EvOk n (x1:Int) ([]:List Ev))/\(0<=(x1:Int)/\(x1:Int)<=3+3*(([]:List Ev).length:Int)) from ⟨(by simp only [List.length_nil];omega),om,EvOk.nil,(by simp only [List.length_nil];omega)⟩) (Aa C (Aa C (Aa (Dl C (by first|rfl|simp)) (Aa Ca (Aa Ca Bp))))) (show Fit κ _ (vc 108 (.slice none ([]).length 0) (([]))::e8 b [lv,e7 ((i4))] 125::I) from (B2 _ _)) ?_)))
 rintro ⟨kq,iqa,a1,c1,out,tt⟩ hp
 dsimp only at hp ⊢
 obtain ⟨hkq,hiqa,hE,htt⟩:=hp
 refine Ap (Ai (Gm C (Gr (Bw C C) (Gm C (Bg (d:=18) C (λg18=>?_) (λg18=>?_))))))
 ·refine e9 (Ad C) (e9 (Bw C C) (Gr (Ar C C) (Af (A8 C (λc21=>?_) (λc21=>?_)))))
  ·refine Ay (Aj (Ap (A0 (Ai (Gm C (Gm C (Gm C (Gm C (G.e (Ah call77 C C (MkEvent_at (by repeat (first|exact AtF.head _ _|apply AtF.tail)) (λ_=>Cv (hl _) A3) om  om om)) ?_)))))))))
   rintro _ _ ⟨_,_,⟨⟨ev5,i6⟩,⟨⟨rfl,hfev5,htev5⟩,hi6⟩,rfl⟩,rfl,rfl⟩
   show G prog κ _ _ _ _ ([(28,.agg #[e7 (ev5.kd),e7 (ev5.tm),e7 (ev5.u),e7 (ev5.v),e7 (ev5.w),e7 (ev5.lb),e7 (ev5.sg)]),(27,e7 tt),(26,e7 n),(25,.pointer (some ⟨b,0,none⟩)),(24,.slice a1 out.length c1),(21,.bool (decide (1<n))),(20,.bool (decide (1<n))),(19,e7 n),(18,.bool true),(18,.bool (decide (0<kq))),(17,.bool (decide (0<kq))),(16,e7 kq),(0,.pointer (some ⟨b,0,none⟩)),(1,e7 n),(7,.slice a1 out.length c1),(8,e7 tt),(9,e7 kq)]:Env) (vc 108 (.slice a1 out.length c1) (out)::e8 b [lv,e7 i6] 125::I)
   have hi6:0<=i6:=hi6
   dsimp only at hfev5
   dsimp only at htev5
   refine Ge1 (Cf (α:=Ev) (cs:=[e7 (ev5.kd),e7 (ev5.tm),e7 (ev5.u),e7 (ev5.v),e7 (ev5.w),e7 (ev5.lb),e7 (ev5.sg)]) (xs:=[⟨ev5.kd,ev5.tm,ev5.u,ev5.v,ev5.w,ev5.lb,ev5.sg⟩]) Be ty108 C C dc dc C kr C C) λad7=>?_
   refine Ge2 (Cm (α:=Ev) (e:=108) (xs:=out) (ys:=([⟨ev5.kd,ev5.tm,ev5.u,ev5.v,ev5.w,ev5.lb,ev5.sg⟩]:List Ev)) Be ty108 C C C mm Bk lcn dc C (λ_ _=>am)) λad8 cp9=>?_
   refine Ga C (Af (Aq (S5 7 0 1 8 9 C C C C C) (Ax (Gm C (Gm C (G.e (Ah call19 C C (Next_ok (by repeat (first|exact AtF.head _ _|apply AtF.tail)) (Cv (hl _) A3) om om)) ?_))))))
   rintro _ _ ⟨_,_,⟨x10,i11,rfl,hx10,hi11,rfl⟩,rfl,rfl⟩
   show G prog κ _ _ _ _ ([(33,e7 x10),(32,.pointer (some ⟨b,0,none⟩)),(31,e7 tt),(7,.slice ad8 (out++([⟨ev5.kd,ev5.tm,ev5.u,ev5.v,ev5.w,ev5.lb,ev5.sg⟩]:List Ev)).length cp9),(0,.pointer (some ⟨b,0,none⟩)),(1,e7 n),(8,e7 tt),(9,e7 kq)]:Env) (vc 108 (.slice ad7 1 1) (([⟨ev5.kd,ev5.tm,ev5.u,ev5.v,ev5.w,ev5.lb,ev5.sg⟩]:List Ev))::vc 108 (.slice ad8 (out++([⟨ev5.kd,ev5.tm,ev5.u,ev5.v,ev5.w,ev5.lb,ev5.sg⟩]:List Ev)).length cp9) (out++([⟨ev5.kd,ev5.tm,ev5.u,ev5.v,ev5.w,ev5.lb,ev5.sg⟩]:List Ev))::e8 b [lv,e7 i11] 125::I)
   exact Gr (Rad C C) (Ga C (Bi (Ak (Aj (Ax (Gm C (Gr (Rsu C C) (Ga C (Bi (B5 ((kq - 1),(i11),(ad8),(cp9),(out++([⟨ev5.kd,ev5.tm,ev5.u,ev5.v,ev5.w,ev5.lb,ev5.sg⟩]:List Ev)),(tt+x10)) (by dsimp only;exact ⟨lap,om,(EvOk.later (by first|exact hE.push asm asm|exact EvOk.push hE asm asm) om),lap⟩)))))))))))
  ·exact absurd hn.1 om
 ·exact eb (eb (Gr (Ao C C) (Af (C2 C (Bv (Al (Al (A5 (Aj (Ai (Gm C (Ga C (Af (Aq (S1 6 C) (A2 (A6 C C (vc 108 (.slice a1 out.length c1) (out)::e8 b [lv,e7 iqa] 125::I) A1 ⟨(a1,c1,out,iqa),⟨⟨rfl,⟨hE.later om,by show (out.length:Int)<=most;omega⟩⟩,by show 0<=iqa;omega⟩,rfl⟩))))))))))))))))
theorem MkEvents_at{F:Item->List Item}{b:Nat}{lv:Value}{ls:List Int}{i:Int}{n most:Int}(hat:AtF I (deck b lv i) F)(hl:∀q,Sl κ (F (deck b lv q)) lv ls)(h0:0<=i)(hn:2<=n/\n<=64)(hm:0<=most/\most<=20):eu prog κ 20 [.pointer (some ⟨b,0,none⟩),e7 n,e7 most] I λr J=>∃y:(Option Addr)×Nat×(List Ev)×Int,((r = .slice y.1 y.2.2.1.length y.2.1/\(EvOk n 500 y.2.2.1/\(y.2.2.1.length:Int)<=most))/\0<=y.2.2.2)/\J=[vc 108 (.slice y.1 y.2.2.1.length y.2.1) y.2.2.1]++F (deck b lv y.2.2.2):=
 En (Post:=λr (y:(Option Addr)×Nat×(List Ev)×Int)=>(r = .slice y.1 y.2.2.1.length y.2.1/\(EvOk n 500 y.2.2.1/\(y.2.2.1.length:Int)<=most))/\0<=y.2.2.2) (Z:=λy:(Option Addr)×Nat×(List Ev)×Int=>[vc 108 (.slice y.1 y.2.2.1.length y.2.1) y.2.2.1]) (X:=λy:(Option Addr)×Nat×(List Ev)×Int=>deck b lv y.2.2.2) hat λJ _ hF=>MkEvents_base (λq=>(hl q).fit (hF _)) h0  hn hm
variable {κ:Ctx}{I:List Item}
theorem slideE_zeroH{nd kd wd mo:Int}{es:List Ev}(h:HistOk nd kd wd mo es):slideE nd kd wd mo es=0:=by
 unfold slideE
 rw [if_neg (by simp [h.win])]
 have h1:=h.st.nodes
 have h2:=h.st.len
 unfold streamE
 rw [if_neg om,if_neg om]
 exact streamS_ok h.st.fit h.st.asc es.length 0 om
theorem Slide_hist{nd kd wd mo:Int}{va:Value}{es:List Ev}(hl:Sl κ I va es)(h:HistOk nd kd wd mo es):eu prog κ 140 [e7 nd,va,.agg #[e7 kd,e7 wd,e7 mo]] I λr J=>∃a c,r = .tuple #[.slice a (slideS kd wd mo es).2.length c,e7 0]/\J=vc 108 (.slice a (slideS kd wd mo es).2.length c) (slideS kd wd mo es).2::I:=
 (Slide_ok hl).mono λr J hh=>by
  rcases hh with ⟨h1,_⟩|⟨a,c,_,h2,h3⟩
  ·exact absurd (slideE_zeroH h) h1
  ·exact ⟨a,c,h2,h3⟩
theorem Fit.one{κ:Ctx}{x:Item}{I:List Item}:Fit κ (x::I) [x]:=Fit.of_sublist (List.Sublist.cons_cons _ (List.nil_sublist _))
theorem Fit.mid{κ:Ctx}{A L T:List Item}:Fit κ (A++(L++T)) (A++T):=Fit.of_sublist (List.Sublist.append (List.Sublist.refl _) (List.sublist_append_right _ _))
theorem at_zero_drop{α:Type}[Inhabited α](xs:List α)(l:Nat):e_ (xs.drop l) 0=e_ xs l:=by
 rw [at_drop xs l 0 (Int.le_refl _),Int.add_zero]
theorem links_len{nd:Int}{X:List Lk}(h:checkS nd X=0):X.length<=2016:=by
 have:=edges_le (edgesK_ok h)
 rwa [edgesK_len] at this
structure MomentX (E:List Ev) (fst:Bool) (j:Nat) (t:Int) (own:Bool) (j':Nat):Prop extends Moment E fst j t own j' where
 adv:fst=false->j<j'
set_option maxHeartbeats 4000000 in
theorem Frames1_ok{l bq1 bq2 bq3:Nat}{nd kd wd mo:Int}{ea:Option Addr}{ec:Nat}{es:List Ev}{σ τ:Type}{Lf:σ->List Item}{Pf:Bool->Nat->σ->Prop}{Xf:τ->List Item}{Qf:τ->Prop}{s0:σ}(hH:HistOk nd kd wd mo es)(hlen:es.length<=19)(h1:BlkRd κ I bq1 [e7 nd] 3)(h2:BlkRd κ I bq2 [.slice ea es.length ec] 28)(h3:BlkRd κ I bq3 [e7 kd,e7 wd,e7 mo] 31)(hx:Sl κ I (.slice ea es.length ec) es)(hp0:Pf true 0 s0) (hy:∀T:List Item,Fit κ T I->∀(fst:Bool) (j:Nat) (t:Int) (own:Bool) (j':Nat) (a:Option Addr) (c:Nat),MomentX (allE kd wd mo es) fst j t own j'->∀s,Pf fst j s->
      YieldB prog κ l [.agg #[e7 t,.bool own],.agg #[e7 nd,.slice a (edgesK (eh ((allE kd wd mo es).take j'))).length c]] (Lf s++(vc 135 (.slice a (edgesK (eh ((allE kd wd mo es).take j'))).length c) (edgesK (eh ((allE kd wd mo es).take j')))::T)) λb J=>(b=true/\∃s',Pf false j' s'/\J=Lf s'++T)\/(b=false/\∃q,Qf q/\J=Xf q++T)):eu prog κ 165 [(.func (.yield l) #[] #[]),.pointer (some ⟨bq1,0,none⟩),.pointer (some ⟨bq2,0,none⟩),.pointer (some ⟨bq3,0,none⟩)] (Lf s0++I) (λr J=>r = .tuple #[]/\((∃s,Pf false (allE kd wd mo es).length s/\J=Lf s++I)\/∃q,Qf q/\J=Xf q++I)):=by
 obtain ⟨EE,hEEd⟩:∃EE,allE kd wd mo es=EE:=⟨_,rfl⟩
 rw [hEEd] at hy ⊢
 have hfE:∀e∈EE,FitOk nd e:=by rw [←hEEd];exact hH.allFit
 refine B8 (hx.fit (Fit.appR _ _)).le λhmax=>?_
 refine Ce4 Tryz.func165 C C ?_
 refine Ai (Gr (Dq ef C (Dk h1 A3) C) (Gr (Dq ty28 C (Dk h2 A3) C) (Gr (Runs.loadBs (vs:=[_,_,_]) ty31 C (Dk h3 A3) C C) ?_)))
 refine G.e (Ah call140 C C (Slide_hist (nd:=nd) (kd:=kd) (wd:=wd) (mo:=mo) (es:=es) (Ba hx) hH)) ?_
 rintro _ _ ⟨_,_,⟨ad1,cp2,rfl,rfl⟩,rfl,rfl⟩
 refine Gm C (Gr (Aw C C) (Gr (Aw C C) (Ga C (Ga C ?_))))
 generalize hSE:(slideS kd wd mo es).2=SE
 have hfS:∀e∈SE,FitOk nd e:=by rw [←hSE];exact hH.fit
 have hSl:SE.length<=38:=by rw [←hSE];have:=hH.len2;omega
 have hlS:(eh SE).length<=19:=by rw [←hSE];have:=hH.len;omega
 refine Af (Ai (Gr (Dq ef C (Dk h1 A3) C) (Gr (Bc (cells:=[_,_]) ty111 Tryz.underlying111 pl111 C C) (Ge1 (Au ty111 C) λb3=>Ge0 (Bq ty111) ?_))))
 refine G.fit (J:=vc 146 (.slice none 0 0) (([]:List Lk))::e8 b3 [e7 nd,.slice none 0 0] 111::vc 108 (.slice ad1 (SE).length cp2) (SE)::(Lf s0++I)) (B2 (α:=Lk) _ _) ?_
 refine Af (Aq (S5 7 5 0 1 3 C C C C C) (Ap (Ai (Gm C (Gr (Bs Be C) (Gm C (Af (A0 (B1 (σ:=Nat×(Option Addr)×Nat) (λs=>([(0,(.func (.yield l) #[] #[])),(1,.pointer (some ⟨bq1,0,none⟩)),(3,.pointer (some ⟨bq3,0,none⟩)),(5,.slice ad1 (SE).length cp2),(7,.pointer (some ⟨b3,0,none⟩)),(22,.slice ad1 (SE).length cp2),(23,e7 ((((SE).length:Nat):Int))),(24,e7 ((s.1:Nat):Int))]:Env)) (λs=>vc 146 (.slice s.2.1 (eh (SE.take s.1)).length s.2.2) (eh (SE.take s.1))::e8 b3 [e7 nd,.slice s.2.1 (eh (SE.take s.1)).length s.2.2] 111::vc 108 (.slice ad1 (SE).length cp2) (SE)::(Lf s0++I)) (λs=>(s.1<=SE.length)) (λs=>SE.length - s.1) (0,none,0) (show ((0:Nat)<=SE.length) from om) (Aa C (Aa C (Aa C (Aa C (Aa C (Aa C (Aa C (Aa Ca Bp)))))))) (show Fit κ _ (vc 146 (.slice none (eh (SE.take 0)).length 0) (eh (SE.take 0))::e8 b3 [e7 nd,.slice none (eh (SE.take 0)).length 0] 111::vc 108 (.slice ad1 (SE).length cp2) (SE)::(Lf s0++I)) from B7) ?_)))))))))
 rintro ⟨k,a,c⟩ hp
 dsimp only at hp ⊢
 have hk:=hp
 have hvX:=links_val hH.st.nodes hfS k
 have hlX:=links_len hvX
 refine Ai (Gr (A7 C C) (Af (Ap (A8 C (λc25=>?_) (λc25=>?_)))))
 ·refine Ay (Aj (Ap (A0 (Ai (Gr (Az (α:=Ev) (xs:=SE) Be ty108 C C Bk om om) (Gr (Bz (α:=Ev) (xs:=SE) ty108 C Bk om om) (Ge1 (Au ty108 C) λb4=>Ge0 (Es7_7 ty108) ?_)))))))
  refine Af (Ax (Gl2 ty111 ?_))
  refine Gl7 ty108 ?_
  refine G.e (Ah call141 C C (Db (J:=vc 146 (.slice a (eh (SE.take k)).length c) (eh (SE.take k))::e8 b4 [e7 ((e_ SE k).kd),e7 ((e_ SE k).tm),e7 ((e_ SE k).u),e7 ((e_ SE k).v),e7 ((e_ SE k).w),e7 ((e_ SE k).lb),e7 ((e_ SE k).sg)] 108::e8 b3 [e7 nd,.slice a (eh (SE.take k)).length c] 111::vc 108 (.slice ad1 (SE).length cp2) (SE)::(Lf s0++I)) B7 (ApplyP_ok (nd:=nd) (e:=(e_ SE k)) (xs:=eh (SE.take k)) asm (by first|exact hfS _ (Bf om om)|(rw [hd0];exact hfE _ (Bf om om))) om))) ?_
  rintro _ _ ⟨_,_,⟨ad5,cp6,wv7,rfl,rfl⟩,rfl,rfl⟩
  refine Gm C (Gr (Aw C C) (Gr (Aw C C) (Gr (Aw C C) (Ge0 (Bq ty111) ?_))))
  exact Bi (Ak (Aj (Aq (S8 0 1 3 5 7 22 23 24 C C C C C C C C) (Ax (Gr (Rad C C) (Gm C (Bi (B5 ((k+1),(ad5),(cp6)) (by dsimp only;exact om) (hI:=by (try dsimp only);exact (by rw [linksL_take om];exact B7))))))))))
 ·refine Bv (Al (Al (A5 (Aj (Ai (Gm C (Gl2 ty111 ?_)))))))
  refine Gr (Runs.loadBs (vs:=[_,_,_]) ty31 C (Dk h3 A3) C C) ?_
  refine G.e (Ah call166 C C (Late_ok (nd:=nd) (kd:=kd) (wd:=wd) (mo:=mo) Bk asm (checkW_wd hH.win) (by rw [show k=SE.length by omega,List.take_length];exact hlS))) ?_
  rintro _ _ ⟨_,_,⟨ad8,cp9,rfl,rfl⟩,rfl,rfl⟩
  refine Ge2 (Cm (α:=Ev) (e:=108) (xs:=SE) (ys:=isortG evC (lateL kd wd (eh (SE.take k)))) Be ty108 C C C mm Bk (by first|omega|(have hq1:=(isort_permG evC (lateL kd wd (eh (SE.take k)))).length_eq;have hq2:=lateL_len kd wd (eh (SE.take k));omega)) dc C (λ_ _=>am)) λad10 cp11=>?_
  refine Ga C ?_
  have hEE:SE++(isortG evC (lateL kd wd (eh (SE.take k))))=EE:=by rw [←hEEd,show k=SE.length by omega,List.take_length];unfold allE;rw [hSE]
  rw [hEE]
  refine G.fit (J:=vc 146 (.slice a (eh (SE.take k)).length c) (eh (SE.take k))::e8 b3 [e7 nd,.slice a (eh (SE.take k)).length c] 111::vc 108 (.slice ad10 EE.length cp11) (EE)::(Lf s0++I)) B7 ?_
  have hev0:Sl κ [vc 108 (.slice ad10 EE.length cp11) EE] (.slice ad10 (List.drop 0 EE).length cp11) (List.drop 0 EE):=Sl.vec List.mem_cons_self
  refine Af (Aq (S4 5 0 1 7 C C C C) (Ai (Gr (Dq ef C (Dk h1 A3) C) (Gr (Bc (cells:=[_,_]) ty111 Tryz.underlying111 pl111 C C) (Ge0 (Bq ty111) ?_)))))
  refine Af (Ai (Gr (Bc (cells:=[_,_]) ty153 Tryz.underlying153 pl153 C C) (Ge1 (Au ty153 C) λb12=>Ge0 (Bq ty153) ?_)))
  refine Af (A0 (B1 (σ:=Nat×Bool×Nat×Int×(Option Addr)×Nat×(Option Addr)×Nat×σ) (λs=>([(0,(.func (.yield l) #[] #[])),(5,.slice s.2.2.2.2.1 (List.drop s.1 EE).length s.2.2.2.2.2.1),(7,.pointer (some ⟨b3,0,none⟩)),(10,.pointer (some ⟨s.2.2.1,0,none⟩))]:Env)) (λs=>e8 s.2.2.1 [e7 (s.2.2.2.1),.bool false] 153::vc 146 (.slice s.2.2.2.2.2.2.1 (eh (EE.take s.1)).length s.2.2.2.2.2.2.2.1) (eh (EE.take s.1))::e8 b3 [e7 nd,.slice s.2.2.2.2.2.2.1 (eh (EE.take s.1)).length s.2.2.2.2.2.2.2.1] 111::vc 108 (.slice ad10 EE.length cp11) (EE)::(Lf s.2.2.2.2.2.2.2.2++I)) (λs=>(s.1<=EE.length)/\(s.2.1=true->s.2.2.2.1=0/\s.1=0)/\(s.2.1=false->s.1<EE.length/\s.2.2.2.1=(e_ EE ((s.1:Nat):Int)).tm)/\(Pf s.2.1 s.1 s.2.2.2.2.2.2.2.2)/\(Sl κ [vc 108 (.slice ad10 EE.length cp11) EE] (.slice s.2.2.2.2.1 (List.drop s.1 EE).length s.2.2.2.2.2.1) (List.drop s.1 EE))) (λs=>2*(EE.length - s.1)+s.2.1.toNat) (0,true,b12,0,ad10,cp11,none,0,s0) (show ((0:Nat)<=EE.length)/\((true:Bool)=true->(0:Int)=0/\(0:Nat)=0)/\((true:Bool)=false->(0:Nat)<EE.length/\(0:Int)=(e_ EE (((0:Nat):Nat):Int)).tm)/\(Pf (true:Bool) (0:Nat) (s0:σ))/\(Sl κ [vc 108 (.slice ad10 EE.length cp11) EE] (.slice (ad10:Option Addr) (List.drop (0:Nat) EE).length (cp11:Nat)) (List.drop (0:Nat) EE)) from ⟨om,(λ_=>⟨rfl,rfl⟩),(λh=>by cases h),hp0,hev0⟩) (Aa C (Aa (Dl C (by first|rfl|simp)) (Aa C (Aa (Dl C (by first|rfl|simp)) Bp)))) (show Fit κ _ (e8 b12 [e7 ((0)),.bool false] 153::vc 146 (.slice none (eh (EE.take 0)).length 0) (eh (EE.take 0))::e8 b3 [e7 nd,.slice none (eh (EE.take 0)).length 0] 111::vc 108 (.slice ad10 EE.length cp11) (EE)::(Lf (s0)++I)) from (Cn (B2 (α:=Lk) _ _) B7)) ?_))
  rintro ⟨j,fst,tb,tt,e1,d1,a,c,st_⟩ hp
  dsimp only at hp ⊢
  obtain ⟨hj,hfst,hnx,hps,hev⟩:=hp
  have hft:(fst=true/\fst.toNat=1)\/(fst=false/\fst.toNat=0):=by cases fst<;>simp
  refine Ap (A0 (W.cut (σ:=Nat×Bool×(Option Addr)×Nat×(Option Addr)×Nat) (λs=>([(0,(.func (.yield l) #[] #[])),(5,.slice s.2.2.1 (List.drop s.1 EE).length s.2.2.2.1),(7,.pointer (some ⟨b3,0,none⟩)),(10,.pointer (some ⟨tb,0,none⟩))]:Env)) (λs=>e8 tb [e7 tt,.bool (s.2.1)] 153::vc 146 (.slice s.2.2.2.2.1 (eh (EE.take s.1)).length s.2.2.2.2.2) (eh (EE.take s.1))::e8 b3 [e7 nd,.slice s.2.2.2.2.1 (eh (EE.take s.1)).length s.2.2.2.2.2] 111::vc 108 (.slice ad10 EE.length cp11) (EE)::(Lf st_++I)) (λs=>(MomentX EE fst j tt s.2.1 s.1)/\(Sl κ [vc 108 (.slice ad10 EE.length cp11) EE] (.slice s.2.2.1 (List.drop s.1 EE).length s.2.2.2.1) (List.drop s.1 EE))) ?_ ?_))
  ·refine A0 (B1 (σ:=Nat×Bool×(Option Addr)×Nat×(Option Addr)×Nat) (λs=>([(0,(.func (.yield l) #[] #[])),(5,.slice s.2.2.1 (List.drop s.1 EE).length s.2.2.2.1),(7,.pointer (some ⟨b3,0,none⟩)),(10,.pointer (some ⟨tb,0,none⟩))]:Env)) (λs=>e8 tb [e7 tt,.bool (s.2.1)] 153::vc 146 (.slice s.2.2.2.2.1 (eh (EE.take s.1)).length s.2.2.2.2.2) (eh (EE.take s.1))::e8 b3 [e7 nd,.slice s.2.2.2.2.1 (eh (EE.take s.1)).length s.2.2.2.2.2] 111::vc 108 (.slice ad10 EE.length cp11) (EE)::(Lf st_++I)) (λs=>(j<=s.1/\s.1<=EE.length)/\(∀i:Nat,j<=i->i<s.1->(e_ EE i).tm=tt)/\(s.2.1=decide (j<s.1))/\(Sl κ [vc 108 (.slice ad10 EE.length cp11) EE] (.slice s.2.2.1 (List.drop s.1 EE).length s.2.2.2.1) (List.drop s.1 EE))) (λs=>EE.length - s.1) (j,false,e1,d1,a,c) (show (j<=(j:Nat)/\(j:Nat)<=EE.length)/\(∀i:Nat,j<=i->i<(j:Nat)->(e_ EE i).tm=tt)/\((false:Bool)=decide (j<(j:Nat)))/\(Sl κ [vc 108 (.slice ad10 EE.length cp11) EE] (.slice (e1:Option Addr) (List.drop (j:Nat) EE).length (d1:Nat)) (List.drop (j:Nat) EE)) from ⟨om,(λi h1 h2=>by omega),(by rw [decide_eq_false om]),hev⟩) (Aa C (Aa (Dl C (by first|rfl|simp)) (Aa C (Aa C Bp)))) (show Fit κ _ (e8 tb [e7 tt,.bool ((false))] 153::vc 146 (.slice a (eh (EE.take j)).length c) (eh (EE.take j))::e8 b3 [e7 nd,.slice a (eh (EE.take j)).length c] 111::vc 108 (.slice ad10 EE.length cp11) (EE)::(Lf st_++I)) from B7) ?_)
   rintro ⟨j2,own,e2,d2,a4,c4⟩ hp
   dsimp only at hp ⊢
   obtain ⟨hj2,hsame,hown,hev2⟩:=hp
   have hd0:=at_zero_drop EE j2
   have hdl:(List.drop j2 EE).length=EE.length - j2:=List.length_drop
   have hvX:=links_val hH.st.nodes hfE j2
   have hlX:=links_len hvX
   refine Ap (Ap (Bl mixed (Bt (e8 tb [e7 tt,.bool own] 153::vc 146 (.slice a4 (eh (EE.take j2)).length c4) (eh (EE.take j2))::e8 b3 [e7 nd,.slice a4 (eh (EE.take j2)).length c4] 111::vc 108 (.slice ad10 EE.length cp11) (EE)::(Lf st_++I)) 12 (Dr 0 C (Ad C) (Dr 1 C (Bs Be C) (Dr 2 C (Bw C C) (Dr 3 C (Ad C) (Cs (d:=47) C (λg47=>?_) (λg47=>?_)))))))))
   ·refine Dro 4 C (Ad C) (Dro 5 C (Az (α:=Ev) (xs:=List.drop j2 EE) Be ty108 C C (Cv hev2 f1) om om) (Dro 6 C (Ef (α:=Ev) (xs:=List.drop j2 EE) fld108_1 C (Cv hev2 f1) om) (Dro 7 C (Et (α:=Ev) (xs:=List.drop j2 EE) (u:=e7 ((e_ (List.drop j2 EE) 0).tm)) ef C (Cv hev2 f1) om om C) (Dro 8 C (Ab fld153_0 C) (Dro 9 C (As ef) ?_)))))
    refine Dro 10 C (Bu C C) (Dr 11 C (Ar C C) (Dz (Aj (Aq (S5 55 0 5 7 10 C C C C C) (A8 C (λc55=>?_) (λc55=>?_))))))
    ·refine Ay (Aj (A0 (Ap (Bl mixed (Bt (e8 tb [e7 tt,.bool own] 153::vc 108 (.slice ad10 EE.length cp11) (EE)::(Lf st_++I)) 10 (Dr 1 C (Ad C) (Dr 2 C (Az (α:=Ev) (xs:=List.drop j2 EE) Be ty108 C C (Cv hev2 f1) om om) (Dr 3 C (Bz (α:=Ev) (xs:=List.drop j2 EE) ty108 C (Cv hev2 f1) om om) (Ds1 0 (Sr C (Bd (vs:=[_,_]) ty111) A1 ?_))))))))))
     refine Ds1 4 (Se C (Ah call141 C C (Db (J:=vc 146 (.slice a4 (eh (EE.take j2)).length c4) (eh (EE.take j2))::e8 tb [e7 tt,.bool own] 153::e8 b3 [e7 nd,.slice a4 (eh (EE.take j2)).length c4] 111::vc 108 (.slice ad10 EE.length cp11) (EE)::(Lf st_++I)) B7 (ApplyP_ok (nd:=nd) (e:=(e_ (List.drop j2 EE) 0)) (xs:=eh (EE.take j2)) asm (by first|exact hfS _ (Bf om om)|(rw [hd0];exact hfE _ (Bf om om))) om))) ?_)
     rintro _ _ ⟨_,_,⟨ad13,cp14,wv15,rfl,rfl⟩,rfl,rfl⟩
     refine ⟨A1,?_⟩
     refine Dr 5 C (Ad C) (Dr 6 C (Aw C C) (Dr 7 C (Aw C C) (Dr 8 C (Aw C C) (Ds1 9 (Se0 C (Bq ty111) ?_)))))
     refine Dz (Aj (Aq (S4 0 5 7 10 C C C C) (Ax (Gm C (Gr (E0 (α:=Ev) (xs:=List.drop j2 EE) (l:=1) Be ty108 C C om (Cv hev2 f1) om) (Ga C (Gf fld153_1 C (Ge0 (Eq ty4) ?_))))))))
     exact Bi (Ak (B5 ((j2+1),(true),((adrop e2 d2 1 (Enc.sz Ev))),((d2 - 1)),(ad13),(cp14)) (by dsimp only;exact ⟨om,(λi h1 h2=>by by_cases e:i=j2;(· subst e;rw [←hd0];assumption);(· exact hsame i h1 om)),(by rw [decide_eq_true om]),(by have h:=Sl.drop (l:=1) hev2 om;rw [List.drop_drop] at h;exact h)⟩) (hI:=by (try dsimp only);exact (by rw [linksL_take om,←hd0];exact B7))))
    ·exact Bv (Al (Al (A5 (C9 ((j2),(own),(e2),(d2),(a4),(c4)) (by dsimp only;exact ⟨(⟨⟨by omega,hsame,λh=>by first|(rw [←hd0];assumption)|(exfalso;omega),hown,hfst,hnx⟩,λhff=>by have hq:=hnx hff;rcases Nat.lt_or_ge j j2 with hlt|hge;(· exact hlt);(· exfalso;have hjj:j2=j:=om;subst hjj;first|omega|(rw [hd0] at c55;exact c55 hq.2.symm))⟩),hev2⟩)))))
   ·exact Dpo 4 C (Dpo 5 C (Dpo 6 C (Dpo 7 C (Dpo 8 C (Dpo 9 C (Dpo 10 C (Dr 11 C (Ao C C) (Dz (Aj (Aq (S5 55 0 5 7 10 C C C C C) (C2 C (Bv (Al (Al (A5 (C9 ((j2),(own),(e2),(d2),(a4),(c4)) (by dsimp only;exact ⟨(⟨⟨by omega,hsame,λh=>by first|(rw [←hd0];assumption)|(exfalso;omega),hown,hfst,hnx⟩,λhff=>by have hq:=hnx hff;rcases Nat.lt_or_ge j j2 with hlt|hge;(· exact hlt);(· exfalso;have hjj:j2=j:=om;subst hjj;first|omega|(rw [hd0] at c55;exact c55 hq.2.symm))⟩),hev2⟩)))))))))))))))))
  ·rintro ⟨j3,own3,e3,d3,a5,c5⟩ hp
   obtain ⟨hM3,hev3⟩:(MomentX EE fst j tt own3 j3)/\(Sl κ [vc 108 (.slice ad10 EE.length cp11) EE] (.slice e3 (List.drop j3 EE).length d3) (List.drop j3 EE)):=hp
   show W prog κ 89 _ _ ([(0,(.func (.yield l) #[] #[])),(5,.slice e3 (List.drop j3 EE).length d3),(7,.pointer (some ⟨b3,0,none⟩)),(10,.pointer (some ⟨tb,0,none⟩))]:Env) (e8 tb [e7 tt,.bool own3] 153::vc 146 (.slice a5 (eh (EE.take j3)).length c5) (eh (EE.take j3))::e8 b3 [e7 nd,.slice a5 (eh (EE.take j3)).length c5] 111::vc 108 (.slice ad10 EE.length cp11) (EE)::(Lf st_++I))
   have hmle:=hM3.le
   have hdl3:(List.drop j3 EE).length=EE.length - j3:=List.length_drop
   refine Ai (Gl2 ty111 ?_)
   refine Gc2 (Ah call167 C C (LGraph_ok (nd:=nd) Bk (links_val hH.st.nodes hfE j3) (by have:=links_len (links_val hH.st.nodes hfE j3);omega))) λad16 cp17=>?_
   refine Gm C (Gr (Aw C C) (Gr (Aw C C) (Ge1 (Au ty48 C) λb18=>Ge0 (Bq ty48) ?_)))
   refine Ga C (Af (Ap (Ap (W.regionI ?_))))
   refine Ek (Cg C) C C (Ad C) ?_
   refine Ek (Cg C) C C (Bd (vs:=[_,_]) ty153) ?_
   refine Ek (Cg C) C C (Bd (vs:=[_,_]) ty48) ?_
   refine GY.yieldB (l:=l) (Cg C) C C C (YieldB.fit (Cn B7 (Fit.perm (perm_fr (A:=[vc 135 (.slice ad16 (edgesK (eh (EE.take j3))).length cp17) (edgesK (eh (EE.take j3))),e8 b18 [e7 nd,.slice ad16 (edgesK (eh (EE.take j3))).length cp17] 48,e8 tb [e7 tt,.bool own3] 153,vc 146 (.slice a5 (eh (EE.take j3)).length c5) (eh (EE.take j3)),e8 b3 [e7 nd,.slice a5 (eh (EE.take j3)).length c5] 111,vc 108 (.slice ad10 EE.length cp11) EE]) (L:=Lf st_) (T:=I)))) (hy ([e8 b18 [e7 nd,.slice ad16 (edgesK (eh (EE.take j3))).length cp17] 48,e8 tb [e7 tt,.bool own3] 153,vc 146 (.slice a5 (eh (EE.take j3)).length c5) (eh (EE.take j3)),e8 b3 [e7 nd,.slice a5 (eh (EE.take j3)).length c5] 111,vc 108 (.slice ad10 EE.length cp11) EE]++I) (Fit.appR _ _) fst j tt own3 j3 ad16 cp17 hM3 st_ hps)) ?_
   rintro b _ (⟨rfl,s2_,hp2,rfl⟩|⟨rfl,q_,hq_,rfl⟩)
   ·refine GY.fit (J:=e8 b18 [e7 nd,.slice ad16 (edgesK (eh (EE.take j3))).length cp17] 48::e8 tb [e7 tt,.bool own3] 153::vc 146 (.slice a5 (eh (EE.take j3)).length c5) (eh (EE.take j3))::e8 b3 [e7 nd,.slice a5 (eh (EE.take j3)).length c5] 111::vc 108 (.slice ad10 EE.length cp11) (EE)::(Lf s2_++I)) (Fit.perm (perm_fr (A:=Lf s2_) (L:=[e8 b18 [e7 nd,.slice ad16 (edgesK (eh (EE.take j3))).length cp17] 48,e8 tb [e7 tt,.bool own3] 153,vc 146 (.slice a5 (eh (EE.take j3)).length c5) (eh (EE.take j3)),e8 b3 [e7 nd,.slice a5 (eh (EE.take j3)).length c5] 111,vc 108 (.slice ad10 EE.length cp11) EE]) (T:=I))) ?_
    show GY prog κ _ _ _ _ ([(76,.bool true),(75,.agg #[e7 nd,.slice ad16 (edgesK (eh (EE.take j3))).length cp17]),(74,.agg #[e7 tt,.bool own3]),(73,(.func (.yield l) #[] #[])),(12,e7 0),(11,.pointer (some ⟨b18,0,none⟩)),(72,e7 0),(71,.agg #[e7 nd,.slice ad16 (edgesK (eh (EE.take j3))).length cp17]),(68,.tuple #[.agg #[e7 nd,.slice ad16 (edgesK (eh (EE.take j3))).length cp17],e7 0]),(70,.tuple #[.agg #[e7 nd,.slice ad16 (edgesK (eh (EE.take j3))).length cp17],e7 0]),(69,.agg #[e7 nd,.slice a5 (eh (EE.take j3)).length c5]),(0,(.func (.yield l) #[] #[])),(5,.slice e3 (List.drop j3 EE).length d3),(7,.pointer (some ⟨b3,0,none⟩)),(10,.pointer (some ⟨tb,0,none⟩))]:Env) (e8 b18 [e7 nd,.slice ad16 (edgesK (eh (EE.take j3))).length cp17] 48::e8 tb [e7 tt,.bool own3] 153::vc 146 (.slice a5 (eh (EE.take j3)).length c5) (eh (EE.take j3))::e8 b3 [e7 nd,.slice a5 (eh (EE.take j3)).length c5] 111::vc 108 (.slice ad10 EE.length cp11) (EE)::(Lf s2_++I))
    refine Ek (Cg C) C C (B4 C) ?_
    refine Ek (Cg C) C C (Ad C) ?_
    refine Ek (Ck C C C) C C (Ad C) ?_
    refine Ek (Ck C C C) C C (Bs Be C) ?_
    refine Ek (Ck C C C) C C (Bu C C) ?_
    refine Ek (Cg C) C C (Ao C C) ?_
    refine GY.nil ?_
    refine Aj (Aq (S5 82 0 5 7 10 C C C C C) (A8 C (λc82=>?_) (λc82=>?_)))
    ·refine A2 (Am (Av (Am (Am (Av ?_)))))
     have hje:j3=EE.length:=by omega
     exact V.ret0 C ((Lf s2_++I)) (by repeat (first|exact Fit.refl _|apply Fit.tail)) ⟨rfl,.inl ⟨s2_,by rw [←hje];exact hp2,rfl⟩⟩
    ·refine Ay (Aj (Ax (Gm C (Gr (Az (α:=Ev) (xs:=List.drop j3 EE) Be ty108 C C (Cv hev3 f1) om om) (Gr (Ef (α:=Ev) (xs:=List.drop j3 EE) fld108_1 C (Cv hev3 f1) om) (Gr (Et (α:=Ev) (xs:=List.drop j3 EE) (u:=e7 ((e_ (List.drop j3 EE) 0).tm)) ef C (Cv hev3 f1) om om C) ?_))))))
     rw [at_zero_drop EE j3]
     refine Gr (Bc (cells:=[_,_]) ty153 Tryz.underlying153 pl153 C C) (Ge0 (Bq ty153) ?_)
     refine Bi (Ak (Aj (Ai (Gl2 ty153 ?_))))
     refine Af (Ax (Ge1 (Au ty153 C) λb19=>Ge0 (Bq ty153) ?_))
     exact Bi (B5 ((j3),(false),(b19),((e_ EE j3).tm),(e3),(d3),(a5),(c5),(s2_)) (by dsimp only;exact ⟨om,(λh=>by cases h),(λ_=>⟨by omega,rfl⟩),hp2,hev3⟩) (hlt:=by (try dsimp only);exact (by show 2*(EE.length - j3)+0<2*(EE.length - j)+fst.toNat;rcases hft with h|h;(· omega);(· have:=hM3.le;have:=hM3.adv h.1;omega))))
   ·refine GY.fit (J:=Xf q_++I) Fit.mid ?_
    show GY prog κ _ _ _ _ ([(76,.bool false),(75,.agg #[e7 nd,.slice ad16 (edgesK (eh (EE.take j3))).length cp17]),(74,.agg #[e7 tt,.bool own3]),(73,(.func (.yield l) #[] #[])),(12,e7 0),(11,.pointer (some ⟨b18,0,none⟩)),(72,e7 0),(71,.agg #[e7 nd,.slice ad16 (edgesK (eh (EE.take j3))).length cp17]),(68,.tuple #[.agg #[e7 nd,.slice ad16 (edgesK (eh (EE.take j3))).length cp17],e7 0]),(70,.tuple #[.agg #[e7 nd,.slice ad16 (edgesK (eh (EE.take j3))).length cp17],e7 0]),(69,.agg #[e7 nd,.slice a5 (eh (EE.take j3)).length c5]),(0,(.func (.yield l) #[] #[])),(5,.slice e3 (List.drop j3 EE).length d3),(7,.pointer (some ⟨b3,0,none⟩)),(10,.pointer (some ⟨tb,0,none⟩))]:Env) ((Xf q_++I))
    refine Ek (Cg C) C C (B4 C) ?_
    refine Ek (Cg C) C C (Ad C) ?_
    refine GY.pass (Unwanted.off C C C) C C ?_
    refine GY.pass (Unwanted.off C C C) C C ?_
    refine GY.pass (Unwanted.off C C C) C C ?_
    refine Ek (Cg C) C C (Ar C C) ?_
    refine GY.nil ?_
    exact Aj (Aq (S5 82 0 5 7 10 C C C C C) (Cq C (A2 (Am (Av (Am (Am (Av (V.ret0 C ((Xf q_++I)) (Fit.refl _) ⟨rfl,.inr ⟨q_,hq_,rfl⟩⟩)))))))))
end Go.Sl
namespace Go.Sl
open Go.RowKit (Below)
section
variable {P:Program}{κ:Ctx}{N:Frm}{L:Env}{I J:List Item}{l:Nat}{body:Code}{R:Ending->World->Prop}
def RB(P:Program)(l:Nat)(body:Code)(R:Ending->World->Prop):Exit->Act->World->Prop:=
 Exit.then (λa₁ w₁=>∃w₂,(Instr.beginRound l).run P w₁ = .ok () w₂/\body.wpIn (Fence.wide.inRound l) 0 P (roundPost P l R) a₁ w₂) (λ_ _ _=>False)
theorem V.begin{r:Loop}(J:List Item)(hf:Fit κ I (recI l r::J))(hrd:r.state = .ready/\r.pending=none)(h:WR P κ N l 0 body (roundPost P l R) L (recI l {r with state:= .busy}::J)):V κ N (RB P l body R) .normal L I:=λa w ha hs=>by
 have hs':=hf w hs
 have hl:=(hs'.ok _ List.mem_cons_self).1
 exact ⟨_,run_beginRound hl hrd.1,h a _ ha hs'.putRec⟩
theorem YieldB.mkA{r:Loop}{Post:Bool->List Item->Prop}{args:List Value}{L₀:Env}{assign:Code}(hps:args.length=r.params.size)(ha:r.assign=assign)(hb:r.body=body)
  (hag:Ag N {tmps:=(r.params.zip args.toArray).foldl (λt (p,v)=>t.setIfInBounds p v) r.tmps,defers:=[]} L₀)
  (h:WR P κ N l 0 assign (RB P l body λe w'=>∃b,e = .returned (.bool b)/\∃K,Post b K/\Sep κ w' K) L₀ (recI l r::I)):YieldB P κ l args (recI l r::I) Post:=λw hs=>by
 have hl:=(hs.ok _ List.mem_cons_self).1
 subst ha hb
 exact ⟨_,_,_,_,run_yield hl (by simpa using hps),roundIn_of_wpIn trivial (h _ w hag hs)⟩
theorem ag_two{tm:Array Value}{v u:Value}{p q:Nat}(hta:Ag ⟨N.n,[]⟩ {tmps:=tm,defers:=[]} L)(hp:Nat.blt p N.n=true)(hq:Nat.blt q N.n=true):Ag ⟨N.n,[]⟩ {tmps:=(tm.setIfInBounds p v).setIfInBounds q u,defers:=[]} ((q,u)::(p,v)::L):=(hta.put p hp v).put q hq u
end
end Go.Sl
