/- A part of the proofs of statements of this seat: contracts of functions, and the plain laws that they lean on. No conditions. -/
import Derived.Test.YtnbkccjkdpolmaaGreatDoorA14
set_option linter.unusedVariables false
set_option linter.unusedSimpArgs false
set_option linter.unusedSectionVars false
open Go.Proofs.Tryz (prog)
open List (replicate)
set_option maxHeartbeats 4000000
namespace Go.Sl
open Go.Proofs
set_option maxRecDepth 4000
variable{M i kd mo most n nd t wd x:Int}{es:List Ev}{ea:Option Addr}{b ec:Nat}{lv:Value}{ls:List Int}
variable {κ:Ctx}{I:List Item}
attribute [local irreducible] W G V D A Runs Eff
theorem mkF_mul{a b:Int}(h0:0<=a)(h1:0<b):(mkF a b).den*a=(mkF a b).num*b:=by
 have hg:=gcdI_pos (a:=a) h1
 have d1:gcdI a b ∣ a:=by
  obtain ⟨x,M⟩:=Nat.gcd_dvd_left a.toNat b.toNat
  exact ⟨(x:Int),by unfold gcdI;rw [←Int.natCast_mul,←M];omega⟩
 have d2:gcdI a b ∣ b:=by
  obtain ⟨x,M⟩:=Nat.gcd_dvd_right a.toNat b.toNat
  exact ⟨(x:Int),by unfold gcdI;rw [←Int.natCast_mul,←M];omega⟩
 show b / gcdI a b*a=a / gcdI a b*b
 generalize gcdI a b=g at hg d1 d2
 obtain ⟨x,rfl⟩:=d1
 obtain ⟨y,rfl⟩:=d2
 rw [Int.mul_ediv_cancel_left _ om,Int.mul_ediv_cancel_left _ om]
 rw [←Int.mul_assoc,←Int.mul_assoc,Int.mul_comm y g,Int.mul_comm x g,Int.mul_assoc,Int.mul_assoc,Int.mul_comm y x]
theorem mul_rng{y m:Int}(hx:0<=x/\x<=m)(M:0<=y/\y<=n):0<=x*y/\x*y<=m*n:=⟨Int.mul_nonneg hx.1 M.1,Int.mul_le_mul hx.2 M.2 M.1 om⟩
theorem cntB_le(W:BitVec 64):0<=cntB W/\cntB W<=64:=by
 have:=Ee W
 unfold cntB;omega
theorem edges_le{es:List Pt}(M:GrOk nd es):es.length<=2016:=by
 have hs:∀e∈es,e∈(List.range 64).flatMap fun (v:Nat)=>(List.range v).map fun (u:Nat)=>(⟨(u:Int),(v:Int)⟩:Pt):=λe he=>by
  have h:=M.edge e he
  have hr:=M.rng
  refine List.mem_flatMap.2 ⟨e.v.toNat,List.mem_range.2 om,List.mem_map.2 ⟨e.u.toNat,List.mem_range.2 om,?_⟩⟩
  rw [E6]
  exact ⟨by show ((e.u.toNat:Nat):Int)=e.u;omega,by show ((e.v.toNat:Nat):Int)=e.v;omega⟩
 have hl:=List.Nodup.length_le_of_subset (asc_nodup M.asc) hs
 have e:((List.range 64).flatMap fun (v:Nat)=>(List.range v).map fun (u:Nat)=>(⟨(u:Int),(v:Int)⟩:Pt)).length=2016:=by
  rw [List.length_flatMap]
  simp only [List.length_map,List.length_range]
  decide+kernel
 omega
structure DensR (nd:Int) (es:List Pt) (N D:Int) (B:BitVec 64):Prop where
 dens:DensP nd N D es B
 num:0<=N/\N<=2016
 den:1<=D/\D<=64
 red:∃x y:Int,(0<=x/\x<=2016)/\(1<=y/\y<=64)/\(⟨N,D⟩:Fr)=mkF x y
theorem all_sub(M:0<=nd)(h1:nd<=64):subN nd (allB nd):=λx hx=>by
 have h:=mem_listB.1 hx
 have h2:x.toNat<64:=Classical.byContradiction λhn=>by rw [BitVec.getLsbD_of_ge _ _ om] at h;cases h.2
 rw [getLsb_allB M h1 h2,decide_eq_true_eq] at h
 omega
theorem all_ne(h0:1<=nd)(M:nd<=64):allB nd≠0#64:=nz_listB.2 ⟨0,mem_listB.2 ⟨Int.le_refl _,by
 rw [getLsb_allB om M dc,decide_eq_true_eq];omega⟩⟩
theorem plainP(m:Nat)(es:List Pt):PlainP (m:Int) es (replicate es.length 1) (replicate m (default:Int)) (replicate m 1) where
 wl:=List.length_replicate
 w1:=λi hi=>Fy _ _ _ om om
 bl:=by rw [List.length_replicate,Int.toNat_natCast]
 b0:=λi M h1=>by rw [Fy _ _ _ M om];rfl
 cl:=by rw [List.length_replicate,Int.toNat_natCast]
 c1:=λi M h1=>Fy _ _ _ M om
theorem Densest_ok{ve vw vb vk:Value}{es:List Pt}{ws bs cs:List Int}(hl:Sl κ I ve es)(hw:Sl κ I vw ws)(hb:Sl κ I vb bs)(aj:Sl κ I vk cs)(hG:GrOk nd es)(hm:es.length<=2016)(hP:PlainP nd es ws bs cs)(h1:1<=nd)(hT:TabRd κ I 0 tzCells):eu prog κ 139 [.agg #[ve,vw,vb,vk,U64 (allB nd),U64 (0#64)]] I (λr J=>∃B a c parts N D,r = .tuple #[.agg #[U64 B,.slice a (parts:List Int).length c],.agg #[e7 N,e7 D]]/\DensR nd es N D B/\SplitP nd N D es parts/\J=vc 3 (.slice a parts.length c) parts::I):=by
 have ae:=hG.rng
 have az:=hP.wl
 have ay:=hP.bl
 have a0:=hP.cl
 refine Ce1 Tryz.func139 C C ?_
 refine Ar<|Ge1 (Al (cs:=[_,_,_,_,_,_]) C C C) λb1=>Ge1 (Am ty169 C) λb2=>Ge1 (Am ty34 C) λb3=>Z ?_
 refine D7 (σ:=(BitVec 64)) (λs=>[(4,U64 s)]) (λ_=>[]) (λs=>(subN nd s)/\(s≠0#64)) (λs=>8257536 - densM es s) (allB nd) ⟨(all_sub ae.1 ae.2),(all_ne h1 ae.2)⟩ ?_
 rintro M hp
 obtain ⟨hW,ah⟩:=hp
 have aw:=densM_le hm ah
 have a3:=insE_bd M es
 have a4:=cntB_pos ah
 refine Z ?_
 refine G.e (Ac c_ C C<|Gain_ok (Au hl) (Au hw) (Au hb) (Au aj) hG hm hP M (by first|exact hW|exact hS.sub)<|A8 hT Ah) ?_
 rintro _ _ ⟨_,_,⟨rfl,rfl⟩,rfl,rfl⟩
 refine Z ?_
 refine Gc0 (Ac c_ C C<|MakeF_ok (insE M es) (cntB M) om om)<|Z ?_
 have ap:=mkF_num (a:=insE M es) (b:=cntB M) om om
 have ar:=mkF_den (a:=insE M es) (b:=cntB M) om
 have aa:=mkF_mul (a:=insE M es) (b:=cntB M) om om
 have ab:(⟨(mkF (insE M es)<|cntB M).num,(mkF (insE M es)<|cntB M).den⟩:Fr)=mkF (insE M es) (cntB M):=rfl
 generalize (mkF (insE M es)<|cntB M).num=Nn at ap aa ab ⊢
 generalize (mkF (insE M es)<|cntB M).den=Dd at ar aa ab ⊢
 refine Z ?_
 refine Ge1 (Am ty34 C) λb4=>Ge0 (Cf ty34)<|Z ?_
 refine G.e (Ac c_ C C<|Solve_ok (Au hl) (Au hw) (Au hb) (Au aj) hG hm hP (nu:=Nn) (de:=Dd) om om) ?_
 rintro _ _ ⟨_,_,⟨Bn,pa,pc,parts,rfl,hS,an,rfl⟩,rfl,rfl⟩
 have au:=insE_bd Bn es
 have av:=cntB_le Bn
 refine Ge1 (Am ty169 C) λb5=>Ge0 (Cf ty169)<|Z ?_
 refine G.e (Ac c_ C C<|Gain_ok (Au hl) (Au hw) (Au hb) (Au aj) hG hm hP Bn (by first|exact hW|exact hS.sub)<|A8 hT Ah) ?_
 rintro _ _ ⟨_,_,⟨rfl,rfl⟩,rfl,rfl⟩
 refine Z ?_
 refine Gr (Ft C C<|by unfold InR;first|omega|(have ao:=mul_rng (x:=insE Bn es) (y:=Dd) (m:=2016) (n:=64) om om;have aq:=mul_rng (x:=Nn) (y:=cntB Bn) (m:=2016) (n:=64) om om;omega))<|Z ?_
 refine Gr (Ft C C<|by unfold InR;first|omega|(have ao:=mul_rng (x:=insE Bn es) (y:=Dd) (m:=2016) (n:=64) om om;have aq:=mul_rng (x:=Nn) (y:=cntB Bn) (m:=2016) (n:=64) om om;omega))<|Z ?_
 refine Ap C (λad=>?_)<|λad=>Z ?_
 ·refine A5 (A4 mixed<|Cm (e8 b5 [U64 Bn,.slice pa parts.length pc] 169::vc 3 (.slice pa parts.length pc) (parts)::e8 b4 [e7 Nn,e7 Dd] 34::e8 b1 [ve,vw,vb,vk,U64<|allB nd,U64<|0#64] 172::I) 2<|Z ?_)
  refine C0 (rs:=[1,2]) kr C C<|D6 ?_<|Dv ?_
  ·refine Sr C (Bl (vs:=[_,_]) ty34) Aj ?_
   refine C3 kr ?_
   refine Ae 2 C (Cf ty169) ?_
   rintro _ _ ⟨rfl,rfl⟩
   refine Ae 3 C (Cf ty34) ?_
   rintro _ _ ⟨rfl,rfl⟩
   refine C4 kr<|Z ?_
   have ak:=hS.done hW ah aa ad
   exact V.retcc C ty169 ty34 C C mm mm C C (vc 3 (.slice pa parts.length pc) parts::I) Bb ⟨Bn,pa,pc,parts,Nn,Dd,rfl,⟨ak,by omega,by omega,_,_,by omega,by omega,ab⟩,splitP_of hG om an ad,rfl⟩
  refine Se0 C (Cf ty169) ?_
  refine Ds1 1<|Sr C (Bl (vs:=[_,_]) ty34) Aj ?_
  refine Ds1 3<|Se0 C (Cf ty34)<|Z ?_
  have ak:=hS.done hW ah aa ad
  exact V.retcc C ty169 ty34 C C mm mm C C (vc 3 (.slice pa parts.length pc) parts::I) Bb ⟨Bn,pa,pc,parts,Nn,Dd,rfl,⟨ak,by omega,by omega,_,_,by omega,by omega,ab⟩,splitP_of hG om an ad,rfl⟩
 have ai:Bn≠0#64:=pos_set (nd:=nd) (N:=Nn) (D:=Dd) (es:=es) (by have e:insE Bn es*Dd=Dd*insE Bn es:=Int.mul_comm _ _;omega)
 have a1:=densM_grow (nd:=nd) (B:=Bn) ah om aa ad
 have ax:=densM_le hm ai
 exact B5 ((Bn)) ⟨hS.sub,ai⟩
theorem Plain_base{m:Nat}{es:List Pt}(hl:Sl κ I (.slice ea es.length ec) es)(hm:es.length<=2016)(bb:m<=64):eu prog κ 138 [.agg #[e7 ((m:Int)),.slice ea es.length ec]] I (λr J=>∃aw cw ab cb ak ck ws bs cs,r = .agg #[.slice ea es.length ec,.slice aw (ws:List Int).length cw,.slice ab (bs:List Int).length cb,.slice ak (cs:List Int).length ck,U64 (allB (m:Int)),U64 0#64]/\PlainP (m:Int) es ws bs cs/\J=vc 3 (.slice ak cs.length ck) cs::vc 3 (.slice aw ws.length cw) ws::vc 3 (.slice ab bs.length cb) bs::I):=by
 refine Bu hl.le λa8=>?_
 refine Ce1 Tryz.func138 C C ?_
 refine Ar<|Ge1 (Al (cs:=[_,_]) C C C) λb1=>Ge1 (Am ty172 C) λb2=>As<|E8 (σ:=Nat×(Option Addr)×Nat) (λs=>([(1,.pointer<|some ⟨b1,0,none⟩),(2,.pointer<|some ⟨b2,0,none⟩),(3,.pointer<|some ⟨s.1,0,none⟩)]:Env)) (λs=>vc 3 (.slice s.2.1 (replicate m (default:Int)).length s.2.2) (replicate m (default:Int))::e8 s.1 [.slice ea es.length ec,.slice none 0 0,.slice s.2.1 (replicate m (default:Int)).length s.2.2,.slice none 0 0,U64<|allB (m:Int),U64<|0#64] 172::e8 b2 [.slice none 0 0,.slice none 0 0,.slice none 0 0,.slice none 0 0,.int .u64 0,.int .u64 0] 172::e8 b1 [e7 ((m:Int)),.slice ea es.length ec] 56::I) (λs=>True) ?_ ?_
 ·refine A4 mixed (Cr 10<|Z ?_)
  refine C0 (rs:=[4,7,9]) kr C C<|D6 ?_<|D6 ?_<|Dv ?_
  ·refine Sc0 C (Ac c_ C C<|MaskAll_ok (m:Int)) ?_
   refine C0 (rs:=[7,9]) kr C C<|D6 ?_<|Dv ?_
   ·refine Se2 C (Cj (α:=Int) (n:=m) Aa ef C C C om om dc C) λay a0=>Z ?_
    refine Ds1 9<|Se1 C (Am ty172 C) λb5=>?_
    refine C3 kr ?_
    refine Ae 10 C (E9 ty172) ?_
    rintro _ _ ⟨rfl,rfl⟩
    refine C4 kr ?_
    exact Cg ((b5),(ay),(a0)) trivial
   refine Se1 C (Am ty172 C) λb6=>?_
   refine Ds1 7<|Se2 C (Cj (α:=Int) (n:=m) Aa ef C C C om om dc C) λa6 a5=>Z ?_
   refine C3 kr ?_
   refine Ae 10 C (E9 ty172) ?_
   rintro _ _ ⟨rfl,rfl⟩
   refine C4 kr ?_
   exact Cg ((b6),(a6),(a5)) trivial
  ·refine Se2 C (Cj (α:=Int) (n:=m) Aa ef C C C om om dc C) λaa M=>?_
   refine C0 (rs:=[4,9]) kr C C<|D6 ?_<|Dv ?_
   ·refine Sc0 C (Ac c_ C C<|MaskAll_ok (m:Int)) ?_
    refine Dr 8 C (Br (cells:=[.slice ea es.length ec,.slice none 0 0,.slice aa (replicate m (default:Int)).length M,.slice none 0 0,U64<|allB (m:Int),.int .u64 0]) ty172 Fd pl172 C kr)<|Ds1 9<|Se1 C (Am ty172 C) λaz=>?_
    refine C3 kr ?_
    refine Ae 10 C (E9 ty172) ?_
    rintro _ _ ⟨rfl,rfl⟩
    refine C4 kr ?_
    exact Cg ((az),(aa),(M)) trivial
   refine Se1 C (Am ty172 C) λa3=>?_
   refine Ds1 4<|Sc0 C (Ac c_ C C<|MaskAll_ok (m:Int)) ?_
   refine Dr 8 C (Br (cells:=[.slice ea es.length ec,.slice none 0 0,.slice aa (replicate m (default:Int)).length M,.slice none 0 0,U64<|allB (m:Int),.int .u64 0]) ty172 Fd pl172 C kr)<|C3 kr ?_
   refine Ae 10 C (E9 ty172) ?_
   rintro _ _ ⟨rfl,rfl⟩
   refine C4 kr ?_
   exact Cg ((a3),(aa),(M)) trivial
  refine Se1 C (Am ty172 C) λau=>?_
  refine C0 (rs:=[4,7]) kr C C<|D6 ?_<|Dv ?_
  ·refine Sc0 C (Ac c_ C C<|MaskAll_ok (m:Int)) ?_
   refine Ds1 7<|Se2 C (Cj (α:=Int) (n:=m) Aa ef C C C om om dc C) λan ap=>Z ?_
   refine C3 kr ?_
   refine Ae 10 C (E9 ty172) ?_
   rintro _ _ ⟨rfl,rfl⟩
   refine C4 kr ?_
   exact Cg ((au),(an),(ap)) trivial
  refine Se2 C (Cj (α:=Int) (n:=m) Aa ef C C C om om dc C) λad ae=>?_
  refine Ds1 4<|Sc0 C (Ac c_ C C<|MaskAll_ok (m:Int)) ?_
  refine Dr 8 C (Br (cells:=[.slice ea es.length ec,.slice none 0 0,.slice ad (replicate m (default:Int)).length ae,.slice none 0 0,U64<|allB (m:Int),.int .u64 0]) ty172 Fd pl172 C kr)<|C3 kr ?_
  refine Ae 10 C (E9 ty172) ?_
  rintro _ _ ⟨rfl,rfl⟩
  refine C4 kr ?_
  exact Cg ((au),(ad),(ae)) trivial
 rintro ⟨pb,ab,cb⟩ hp
 refine Z ?_
 refine Cn (σ:=Nat×(Option Addr)×Nat×(List Int)) (λs=>([(1,.pointer<|some ⟨b1,0,none⟩),(2,.pointer<|some ⟨b2,0,none⟩),(3,.pointer<|some ⟨pb,0,none⟩),(15,e7 ((es.length:Nat):Int)),(16,e7 ((s.1:Nat):Int))]:Env)) (λs=>vc 3 (.slice s.2.1 s.2.2.2.length s.2.2.1) (s.2.2.2)::vc 3 (.slice ab (replicate m (default:Int)).length cb) (replicate m (default:Int))::e8 pb [.slice ea es.length ec,.slice s.2.1 s.2.2.2.length s.2.2.1,.slice ab (replicate m (default:Int)).length cb,.slice none 0 0,U64<|allB (m:Int),U64<|0#64] 172::e8 b2 [.slice none 0 0,.slice none 0 0,.slice none 0 0,.slice none 0 0,.int .u64 0,.int .u64 0] 172::e8 b1 [e7 ((m:Int)),.slice ea es.length ec] 56::I) (λs=>(s.1<=es.length)/\(s.2.2.2=replicate s.1 1)) (λs=>es.length - s.1) (0,none,0,[]) ⟨om,rfl⟩ (Ab C<|Ab C<|Ab C<|Ab C<|Ab Dg Bs) (Bw _ _) ?_
 rintro ⟨k,aw,cw,ws⟩ hp
 dsimp only at hp ⊢
 obtain ⟨hk,ah⟩:=hp
 have bc:ws.length=k:=by rw [ah,List.length_replicate]
 refine Z ?_
 refine Ap C (λa4=>Z ?_)<|λa4=>Z ?_
 ·refine Ge1 (B9 (α:=Int) (cs:=[_]) (xs:=[1]) Aa ef C C dc dc C C C C) λa7=>?_
  refine Ge2 (B4 (α:=Int) (e:=3) (xs:=ws) (ys:=([1]:List Int)) Aa ef C C C mm A7 lcn dc C<|λ_ _=>am) λao ax=>?_
  refine Gf fld172_1 C<|Ge0 (Es6_1 ty22)<|Z ?_
  exact B5 ((k+1),(ao),(ax),(ws++([1]:List Int)))<|by dsimp only;exact ⟨om,(by rw [ah,List.replicate_succ'])⟩
 refine Cn (σ:=Nat×(Option Addr)×Nat×(List Int)) (λs=>([(2,.pointer<|some ⟨b2,0,none⟩),(3,.pointer<|some ⟨pb,0,none⟩),(25,e7<|(m:Int)),(26,e7 ((s.1:Nat):Int))]:Env)) (λs=>vc 3 (.slice s.2.1 s.2.2.2.length s.2.2.1) (s.2.2.2)::vc 3 (.slice aw ws.length cw) (ws)::vc 3 (.slice ab (replicate m (default:Int)).length cb) (replicate m (default:Int))::e8 pb [.slice ea es.length ec,.slice aw ws.length cw,.slice ab (replicate m (default:Int)).length cb,.slice s.2.1 s.2.2.2.length s.2.2.1,U64<|allB (m:Int),U64<|0#64] 172::e8 b2 [.slice none 0 0,.slice none 0 0,.slice none 0 0,.slice none 0 0,.int .u64 0,.int .u64 0] 172::e8 b1 [e7 ((m:Int)),.slice ea es.length ec] 56::I) (λs=>(s.1<=m)/\(s.2.2.2=replicate s.1 1)) (λs=>m - s.1) (0,none,0,[]) ⟨om,rfl⟩ (Ab C<|Ab C<|Ab C<|Ab Dg Bs) (Bw _ _) ?_
 rintro ⟨k2,ak,ck,cs⟩ hp
 dsimp only at hp ⊢
 obtain ⟨be,ai⟩:=hp
 have a9:cs.length=k2:=by rw [ai,List.length_replicate]
 refine Z ?_
 refine Ap C (λa1=>Z ?_)<|λa1=>Z ?_
 ·refine Ge1 (B9 (α:=Int) (cs:=[_]) (xs:=[1]) Aa ef C C dc dc C C C C) λba=>?_
  refine Ge2 (B4 (α:=Int) (e:=3) (xs:=cs) (ys:=([1]:List Int)) Aa ef C C C mm A7 lcn dc C<|λ_ _=>am) λar av=>?_
  refine Gf fld172_3 C<|Ge0 (Es6_1 ty22)<|Z ?_
  exact B5 ((k2+1),(ar),(av),(cs++([1]:List Int)))<|by dsimp only;exact ⟨om,(by rw [ai,List.replicate_succ'])⟩
 refine Ge0 (E9 ty172)<|Z ?_
 have hP:=plainP m es
 have aq:ws=replicate es.length 1:=by rw [ah,show k=es.length by omega]
 have aj:cs=replicate m 1:=by rw [ai,show k2=m by omega]
 exact B0 C ty172 C mm C (vc 3 (.slice ak cs.length ck) cs::vc 3 (.slice aw ws.length cw) ws::vc 3 (.slice ab (replicate m (default:Int)).length cb) (replicate m (default:Int))::I) Bb ⟨aw,cw,ab,cb,ak,ck,ws,replicate m (default:Int),cs,rfl,by rw [aq,aj];exact hP,rfl⟩
theorem Plain_ok{M:Option Addr}{es:List Pt}(hl:Sl κ I (.slice M es.length ec) es)(hm:es.length<=2016)(hr:0<=nd/\nd<=64):eu prog κ 138 [.agg #[e7 nd,.slice M es.length ec]] I λr J=>∃aw cw ab cb ak ck ws bs cs,r = .agg #[.slice M es.length ec,.slice aw (ws:List Int).length cw,.slice ab (bs:List Int).length cb,.slice ak (cs:List Int).length ck,U64 (allB nd),U64 0#64]/\PlainP nd es ws bs cs/\J=vc 3 (.slice ak cs.length ck) cs::vc 3 (.slice aw ws.length cw) ws::vc 3 (.slice ab bs.length cb) bs::I:=by
 obtain ⟨m,rfl⟩:=Int.eq_ofNat_of_zero_le hr.1
 exact Plain_base hl hm om
variable {κ:Ctx}{I:List Item}
theorem MkWindow_base(hl:∀q,Sl κ (deck b lv q::I) lv ls)(h0:0<=i)   :
    eu prog κ 11 [.pointer (some ⟨b,0,none⟩)] (e8 b [lv,e7 i] 65::I) (λr J=>∃y:Int×Int×Int×Int,((r = .agg #[e7 y.1,e7 y.2.1,e7 y.2.2.1])/\0<=y.2.2.2)/\J=[]++deck b lv y.2.2.2::I):=by
 refine Ce1 Tryz.func11 C C ?_
 refine Ar<|Ge1 (Am ty31 C) λb1=>Z ?_
 refine G.e (Ac c_ C C<|Next_ok (by repeat (first|exact AtF.head _ _|apply AtF.tail)) (Bm (hl _) Ah) om om) ?_
 rintro _ _ ⟨_,_,⟨x2,M,rfl,ai,aa,rfl⟩,rfl,rfl⟩
 refine Z ?_
 refine Ap C (λc5=>?_)<|λc5=>Z ?_
 ·refine Ar (Gm C<|G.e (Ac c_ C C<|Next_ok (by repeat (first|exact AtF.head _ _|apply AtF.tail)) (Bm (hl _) Ah) om om) ?_)
  rintro _ _ ⟨_,_,⟨x4,i5,rfl,ab,ae,rfl⟩,rfl,rfl⟩
  refine Z ?_
  refine Ge0 (Es3_3 ty31)<|Z ?_
  exact B0 C ty31 C mm C (e8 b [lv,e7 i5] 65::I) Aj ⟨(2,1+x4,0,i5),⟨rfl,by show 0<=i5;omega⟩,rfl⟩
 refine Ap C (λc11=>?_)<|λc11=>Z ?_
 ·refine Ar (Gm C<|G.e (Ac c_ C C<|Next_ok (by repeat (first|exact AtF.head _ _|apply AtF.tail)) (Bm (hl _) Ah) om om) ?_)
  rintro _ _ ⟨_,_,⟨x6,i7,rfl,ad,ah,rfl⟩,rfl,rfl⟩
  refine Z ?_
  refine Ge0 (Es3_3 ty31)<|Z ?_
  exact B0 C ty31 C mm C (e8 b [lv,e7 i7] 65::I) Aj ⟨(3,0,x6,i7),⟨rfl,by show 0<=i7;omega⟩,rfl⟩
 refine Ge0 (Es3_3 ty31) ?_
 exact As<|Bf<|B0 C ty31 C mm C (e8 b [lv,e7 M] 65::I) Aj ⟨(1,0,0,M),⟨rfl,by show 0<=M;omega⟩,rfl⟩
theorem MkWindow_at{F:Item->List Item}(M:AtF I (deck b lv i) F)(hl:∀q,Sl κ (F (deck b lv q)) lv ls)(h0:0<=i)   :
  eu prog κ 11 [.pointer (some ⟨b,0,none⟩)] I λr J=>∃y:Int×Int×Int×Int,((r = .agg #[e7 y.1,e7 y.2.1,e7 y.2.2.1])/\0<=y.2.2.2)/\J=[]++F (deck b lv y.2.2.2):=
 Ep (Post:=λr (y:Int×Int×Int×Int)=>(r = .agg #[e7 y.1,e7 y.2.1,e7 y.2.2.1])/\0<=y.2.2.2) (Z:=λy:Int×Int×Int×Int=>[]) (X:=λy:Int×Int×Int×Int=>deck b lv y.2.2.2) M λJ _ hF=>MkWindow_base (λq=>(hl q).fit (hF _)) h0  
variable {κ:Ctx}{I:List Item}
theorem evmod{s N:Int}(h1:0<=s)(M:s<N)(h3:0<=x)(h4:x<N - 1):(0<=Int.tmod (s+1+x) N/\Int.tmod (s+1+x) N<N)/\s≠Int.tmod (s+1+x) N:=by
 rw [Int.tmod_eq_emod_of_nonneg om]
 by_cases h:s+1+x<N
 ·rw [Int.emod_eq_of_lt om h];omega
 rw [show s+1+x=(s+1+x - N)+N by omega,Int.add_emod_right,Int.emod_eq_of_lt om om];omega
theorem fit_mk{tm u v w lb sg:Int}(hk:1<=kd/\kd<=3)(ht:0<=tm/\tm<=1048576)(hu:0<=u/\u<n)(hn:n<=64)(hv:kd=3->v=0)(M:kd≠3->(0<=v/\v<n)/\u≠v)(hr:kd=1->rightW w lb sg)(hz:kd≠1->w=0/\lb=0/\sg=0):FitOk n ⟨kd,tm,u,v,w,lb,sg⟩:=
 ⟨hk,ht,⟨by show 0<=u/\u<64;omega,hv,λh=>by have:=M h;show (0<=v/\v<64)/\u≠v;omega⟩,hr,by
  show u<n/\v<n
  by_cases h:kd=3
  ·have:=hv h;omega
  have:=M h;omega,hz⟩
structure EvOk (n tt:Int) (es:List Ev):Prop where
 fit:∀e∈es,FitOk n e
 tm:∀e∈es,e.tm<=tt
 asc:∀j:Nat,j<es.length->lastT es j<=(e_ es j).tm
theorem EvOk.nil:EvOk n M []:=⟨λe h=>(by cases h),λe h=>(by cases h),λj h=>absurd h (Nat.not_lt_zero _)⟩
theorem EvOk.later{ty:Int}(h:EvOk n M es)(ht:M<=ty):EvOk n ty es:=⟨h.fit,λe he=>by have:=h.tm e he;omega,h.asc⟩
theorem EvOk.push{e:Ev}(h:EvOk n M es)(hf:FitOk n e)(ht:e.tm=M):EvOk n M (es++[e]):=by
 refine ⟨λx hx=>?_,λx hx=>?_,λj hj=>?_⟩
 ·rcases List.mem_append.1 hx with hx|hx
  ·exact h.fit x hx
  rw [List.mem_singleton.1 hx];exact hf
 ·rcases List.mem_append.1 hx with hx|hx
  ·exact h.tm x hx
  rw [List.mem_singleton.1 hx];omega
 have hl:lastT (es++[e]) j=lastT es j:=by
  unfold lastT
  split
  ·rfl
  rw [List.length_append,List.length_singleton] at hj
  rw [show (j:Int) - 1=((j - 1:Nat):Int) by omega,En es [e] (j - 1) om]
 rw [hl]
 by_cases hje:j<es.length
 ·rw [En es [e] j hje];exact h.asc j hje
 obtain rfl:j=es.length:=by rw [List.length_append,List.length_singleton] at hj;omega
 rw [at_last,ht]
 unfold lastT
 split
 ·rw [←ht];exact hf.tm.1
 rw [show (es.length:Int) - 1=((es.length - 1:Nat):Int) by omega];exact h.tm _ (Bx om om)
theorem streamS_ok(M:∀j:Nat,j<es.length->FitOk nd (e_ es j))(ha:∀j:Nat,j<es.length->lastT es j<=(e_ es j).tm):∀m k:Nat,k+m=es.length->streamS nd (lastT es k) (es.drop k)=0
 |0,k,h=>streamS_end om
 |m+1,k,h=>by
  rw [streamS_step om (fitE_ok.2<|M k om) (by have:=ha k om;omega)]
  exact streamS_ok M ha m (k+1) om
theorem MkEvent_base{b:Nat}{lv:Value}{ls:List Int}{i:Int}{n t:Int}(hl:∀q,Sl κ (deck b lv q::I) lv ls)(h0:0<=i)(hn:2<=n/\n<=64)(ht:0<=t/\t<=1000000):eu prog κ 23 [.pointer (some ⟨b,0,none⟩),e7 n,e7 t] (e8 b [lv,e7 i] 65::I) (λr J=>∃y:Ev×Int,((r = .agg #[e7 y.1.kd,e7 y.1.tm,e7 y.1.u,e7 y.1.v,e7 y.1.w,e7 y.1.lb,e7 y.1.sg]/\FitOk n y.1/\y.1.tm=t)/\0<=y.2)/\J=[]++deck b lv y.2::I):=by
 refine Ce3 Tryz.func23 C C ?_
 refine Ar (Ge1 (Am ty63 C) λb1=>Z ?_)
 refine G.e (Ac c_ C C (Next_ok (by repeat (first|exact AtF.head _ _|apply AtF.tail)) (Bm (hl _) Ah) om om)) ?_
 rintro _ _ ⟨_,_,⟨x2,i3,rfl,hx2,hi3,rfl⟩,rfl,rfl⟩
 refine Z ?_
 refine Ge1 (Am ty63 C) λb4=>Ge0 (Fj ty63) ?_
 refine As (E8 (σ:=Int×Int) (λs=>([(0,.pointer (some ⟨b,0,none⟩)),(2,e7 t),(6,.pointer (some ⟨b1,0,none⟩)),(7,.pointer (some ⟨b4,0,none⟩))]:Env)) (λs=>e8 b4 [e7 1,e7 t,e7 x2,e7 (s.1),e7 0,e7 0,e7 0] 63::e8 b1 [e7 0,e7 0,e7 0,e7 0,e7 0,e7 0,e7 0] 63::e8 b [lv,e7 (s.2)] 65::I) (λs=>((0<=s.1/\s.1<n)/\x2≠s.1)/\(0<=s.2)) ?_ ?_)
 ·refine A4 mixed (Cm (e8 b1 [e7 0,e7 0,e7 0,e7 0,e7 0,e7 0,e7 0] 63::I) 12 (Z ?_))
  refine C0 (rs:=[1,6]) kr C C (D6 ?_ (Dv ?_))
  ·refine Sr C (Ax ef) Aj ?_
   refine Dr 2 C (Rad C C) (Ds1 6 (Se C (Ac c_ C C (Next_ok (by repeat (first|exact AtF.head _ _|apply AtF.tail)) (Bm (hl _) Ah) om om)) ?_))
   rintro _ _ ⟨_,_,⟨x5,i6,rfl,hx5,hi6,rfl⟩,rfl,rfl⟩
   refine ⟨Aj,?_⟩
   show D prog κ _ _ _ _ _ _ _ ([(20,e7 x5),(16,e7 (x2+1)),(15,e7 x2),(22,e7 n),(19,e7 (n - 1)),(18,e7 n),(17,.pointer (some ⟨b,0,none⟩)),(14,.pointer (some ⟨b4,2,none⟩)),(7,.pointer (some ⟨b4,0,none⟩)),(13,.agg #[e7 1,e7 t,e7 x2,e7 0,e7 0,e7 0,e7 0]),(12,e7 x2),(11,e7 n),(10,.pointer (some ⟨b,0,none⟩)),(9,e7 t),(6,.pointer (some ⟨b1,0,none⟩)),(0,.pointer (some ⟨b,0,none⟩)),(1,e7 n),(2,e7 t)]:Env) (e8 b4 [e7 1,e7 t,e7 x2,e7 0,e7 0,e7 0,e7 0] 63::e8 b1 [e7 0,e7 0,e7 0,e7 0,e7 0,e7 0,e7 0] 63::e8 b [lv,e7 i6] 65::I)
   refine Z ?_
   refine Dr 9 C (Runs.rem C C om) (Z ?_)
   refine Ds1 11 (Se0 C (Do ef) ?_)
   refine Dz ?_
   have htm:=evmod (s:=x2) (x:=x5) (N:=n) om om om om
   exact Cg ((Int.tmod ((x2+1)+x5) n),(i6)) (by dsimp only;exact ⟨htm,om⟩)
  refine Se C (Ac c_ C C (Next_ok (by repeat (first|exact AtF.head _ _|apply AtF.tail)) (Bm (hl _) Ah) om om)) ?_
  rintro _ _ ⟨_,_,⟨x7,i8,rfl,hx7,hi8,rfl⟩,rfl,rfl⟩
  refine ⟨Aj,?_⟩
  show D prog κ _ _ _ _ _ _ _ ([(20,e7 x7),(22,e7 n),(19,e7 (n - 1)),(18,e7 n),(17,.pointer (some ⟨b,0,none⟩)),(14,.pointer (some ⟨b4,2,none⟩)),(7,.pointer (some ⟨b4,0,none⟩)),(13,.agg #[e7 1,e7 t,e7 x2,e7 0,e7 0,e7 0,e7 0]),(12,e7 x2),(11,e7 n),(10,.pointer (some ⟨b,0,none⟩)),(9,e7 t),(6,.pointer (some ⟨b1,0,none⟩)),(0,.pointer (some ⟨b,0,none⟩)),(1,e7 n),(2,e7 t)]:Env) (e8 b4 [e7 1,e7 t,e7 x2,e7 0,e7 0,e7 0,e7 0] 63::e8 b1 [e7 0,e7 0,e7 0,e7 0,e7 0,e7 0,e7 0] 63::e8 b [lv,e7 i8] 65::I)
  refine Ds1 1 (Sr C (Ax ef) Aj (Z ?_))
  refine Dr 7 C (Rad C C) (Dr 9 C (Runs.rem C C om) (Z ?_))
  refine Ds1 11 (Se0 C (Do ef) ?_)
  refine Dz ?_
  have htm:=evmod (s:=x2) (x:=x7) (N:=n) om om om om
  exact Cg ((Int.tmod ((x2+1)+x7) n),(i8)) (by dsimp only;exact ⟨htm,om⟩)
 rintro ⟨vv,i9⟩ hp
 obtain ⟨hvv,hi9⟩:((0<=vv/\vv<n)/\x2≠vv)/\(0<=i9):=hp
 refine A5 (Ar (Gm C (G.e (Ac c_ C C (Next_ok (by repeat (first|exact AtF.head _ _|apply AtF.tail)) (Bm (hl _) Ah) om om)) ?_)))
 rintro _ _ ⟨_,_,⟨x9,i10,rfl,hx9,hi10,rfl⟩,rfl,rfl⟩
 refine Z ?_
 refine Ap C (λc27=>Z ?_) (λc27=>Z ?_)
 ·refine Ge0 (Fj ty63) (Z ?_)
  exact B0 C ty63 C mm C (e8 b [lv,e7 i10] 65::I) Aj ⟨(⟨3,t,x2,0,0,0,0⟩,i10),⟨⟨rfl,fit_mk om om om om (λh=>by omega) (λh=>by omega) (λh=>by unfold rightW;omega) (λh=>by omega),rfl⟩,by show 0<=i10;omega⟩,rfl⟩
 refine Ap C (λc34=>Z ?_) (λc34=>Z ?_)
 ·refine Ge0 (Fj ty63) (Z ?_)
  exact B0 C ty63 C mm C (e8 b [lv,e7 i10] 65::I) Aj ⟨(⟨2,t,x2,vv,0,0,0⟩,i10),⟨⟨rfl,fit_mk om om om om (λh=>by omega) (λh=>by omega) (λh=>by unfold rightW;omega) (λh=>by omega),rfl⟩,by show 0<=i10;omega⟩,rfl⟩
 refine G.e (Ac c_ C C (Next_ok (by repeat (first|exact AtF.head _ _|apply AtF.tail)) (Bm (hl _) Ah) om om)) ?_
 rintro _ _ ⟨_,_,⟨x11,i12,rfl,hx11,hi12,rfl⟩,rfl,rfl⟩
 refine Z ?_
 refine G.e (Ac c_ C C (Next_ok (by repeat (first|exact AtF.head _ _|apply AtF.tail)) (Bm (hl _) Ah) om om)) ?_
 rintro _ _ ⟨_,_,⟨x13,i14,rfl,hx13,hi14,rfl⟩,rfl,rfl⟩
 refine Gm C (G.e (Ac c_ C C (Next_ok (by repeat (first|exact AtF.head _ _|apply AtF.tail)) (Bm (hl _) Ah) om om)) ?_)
 rintro _ _ ⟨_,_,⟨x15,i16,rfl,hx15,hi16,rfl⟩,rfl,rfl⟩
 refine Gr (Ft C C (by unfold InR;omega)) (Z ?_)
 refine Ge0 (Do ef) ?_
 refine Gf fld63_5 C (Ge0 (Do ef) ?_)
 refine Gf fld63_6 C (Ge0 (Do ef) (Z ?_))
 refine Ge0 (Fj ty63) ?_
 exact As (Bf (B0 C ty63 C mm C (e8 b [lv,e7 i16] 65::I) Aj ⟨(⟨1,t,x2,vv,1+x11,x13,1 - (2*x15)⟩,i16),⟨⟨rfl,fit_mk om om om om (λh=>by omega) (λh=>by omega) (λh=>by unfold rightW;omega) (λh=>by omega),rfl⟩,by show 0<=i16;omega⟩,rfl⟩))
theorem MkEvent_at{F:Item->List Item}(M:AtF I (deck b lv i) F)(hl:∀q,Sl κ (F (deck b lv q)) lv ls)(h0:0<=i)(hn:2<=n/\n<=64)(ht:0<=t/\t<=1000000):eu prog κ 23 [.pointer (some ⟨b,0,none⟩),e7 n,e7 t] I λr J=>∃y:Ev×Int,((r = .agg #[e7 y.1.kd,e7 y.1.tm,e7 y.1.u,e7 y.1.v,e7 y.1.w,e7 y.1.lb,e7 y.1.sg]/\FitOk n y.1/\y.1.tm=t)/\0<=y.2)/\J=[]++F (deck b lv y.2):=
 Ep (Post:=λr (y:Ev×Int)=>(r = .agg #[e7 y.1.kd,e7 y.1.tm,e7 y.1.u,e7 y.1.v,e7 y.1.w,e7 y.1.lb,e7 y.1.sg]/\FitOk n y.1/\y.1.tm=t)/\0<=y.2) (Z:=λy:Ev×Int=>[]) (X:=λy:Ev×Int=>deck b lv y.2) M λJ _ hF=>MkEvent_base (λq=>(hl q).fit (hF _)) h0  hn ht
theorem MkEvents_base(hl:∀q,Sl κ (deck b lv q::I) lv ls)(h0:0<=i)(hn:2<=n/\n<=64)(hm:0<=most/\most<=20):eu prog κ 10 [.pointer (some ⟨b,0,none⟩),e7 n,e7 most] (e8 b [lv,e7 i] 65::I) (λr J=>∃y:(Option Addr)×Nat×(List Ev)×Int,((r = .slice y.1 y.2.2.1.length y.2.1/\(EvOk n 500 y.2.2.1/\(y.2.2.1.length:Int)<=most))/\0<=y.2.2.2)/\J=[vc 63 (.slice y.1 y.2.2.1.length y.2.1) y.2.2.1]++deck b lv y.2.2.2::I):=by
 refine Ce3 Tryz.func10 C C<|Z ?_
 refine G.e (Ac c_ C C<|Next_ok (by repeat (first|exact AtF.head _ _|apply AtF.tail)) (Bm (hl _) Ah) om om) ?_
 rintro _ _ ⟨_,_,⟨x1,i2,rfl,aw,au,rfl⟩,rfl,rfl⟩
 refine Z ?_
 refine G.e (Ac c_ C C<|Next_ok (by repeat (first|exact AtF.head _ _|apply AtF.tail)) (Bm (hl _) Ah) om om) ?_
 rintro _ _ ⟨_,_,⟨x3,i4,rfl,ar,ax,rfl⟩,rfl,rfl⟩
 refine Ga C<|As<|Bk<|D7 (σ:=Int×Int×(Option Addr)×Nat×(List Ev)×Int) (λs=>[(7,.slice s.2.2.1 s.2.2.2.2.1.length s.2.2.2.1),(8,e7<|s.2.2.2.2.2),(9,e7<|s.1)]) (λs=>[vc 63 (.slice s.2.2.1 s.2.2.2.2.1.length s.2.2.2.1) (s.2.2.2.2.1),e8 b [lv,e7<|s.2.1] 65]) (λs=>(0<=s.1/\(s.2.2.2.2.1.length:Int)+s.1<=most)/\(0<=s.2.1)/\(EvOk n s.2.2.2.2.2 s.2.2.2.2.1)/\(0<=s.2.2.2.2.2/\s.2.2.2.2.2<=3+3*(s.2.2.2.2.1.length:Int))) (λs=>s.1.toNat) (x3,i4,none,0,[],x1) ⟨(by simp only [List.length_nil];omega),om,EvOk.nil,(by simp only [List.length_nil];omega)⟩ (hI:=(Bw _ _)) ?_
 rintro ⟨kq,ab,a1,c1,out,tt⟩ hp
 dsimp only at hp ⊢
 obtain ⟨av,ao,hE,ay⟩:=hp
 refine Z ?_
 refine A6 (d:=18) C (λan=>Z ?_)<|λan=>Z ?_
 ·refine Ap C (λae=>Z ?_) (λae=>?_)
  ·refine G.e (Ac c_ C C<|MkEvent_at (by repeat (first|exact AtF.head _ _|apply AtF.tail)) (λ_=>Bm (hl _) Ah) om  om om) ?_
   rintro _ _ ⟨_,_,⟨⟨ev5,i6⟩,⟨⟨rfl,aa,M⟩,ad⟩,rfl⟩,rfl,rfl⟩
   have ad:0<=i6:=ad
   dsimp only at aa
   dsimp only at M
   refine Ge1 (B9 (α:=Ev) (cs:=[e7 (ev5.kd),e7<|ev5.tm,e7<|ev5.u,e7<|ev5.v,e7<|ev5.w,e7<|ev5.lb,e7<|ev5.sg]) (xs:=[⟨ev5.kd,ev5.tm,ev5.u,ev5.v,ev5.w,ev5.lb,ev5.sg⟩]) Bc ty63 C C dc dc C kr C C) λaz=>?_
   refine Ge2 (B4 (α:=Ev) (e:=63) (xs:=out) (ys:=([⟨ev5.kd,ev5.tm,ev5.u,ev5.v,ev5.w,ev5.lb,ev5.sg⟩]:List Ev)) Bc ty63 C C C mm A7 lcn dc C<|λ_ _=>am) λak ai=>Z ?_
   refine G.e (Ac c_ C C<|Next_ok (by repeat (first|exact AtF.head _ _|apply AtF.tail)) (Bm (hl _) Ah) om om) ?_
   rintro _ _ ⟨_,_,⟨ah,aj,rfl,ap,aq,rfl⟩,rfl,rfl⟩
   refine Z ?_
   exact B5 ((kq - 1),(aj),(ak),(ai),(out++([⟨ev5.kd,ev5.tm,ev5.u,ev5.v,ev5.w,ev5.lb,ev5.sg⟩]:List Ev)),(tt+ah))<|by dsimp only;exact ⟨lap,om,(EvOk.later (by first|exact hE.push asm asm|exact EvOk.push hE asm asm) om),lap⟩
  exact absurd hn.1 om
 exact Ai C C (vc 63 (.slice a1 out.length c1) (out)::e8 b [lv,e7 ab] 65::I) Aj ⟨(a1,c1,out,ab),⟨⟨rfl,⟨hE.later om,by show (out.length:Int)<=most;omega⟩⟩,by show 0<=ab;omega⟩,rfl⟩
theorem MkEvents_at{F:Item->List Item}(M:AtF I (deck b lv i) F)(hl:∀q,Sl κ (F (deck b lv q)) lv ls)(h0:0<=i)(hn:2<=n/\n<=64)(hm:0<=most/\most<=20):eu prog κ 10 [.pointer (some ⟨b,0,none⟩),e7 n,e7 most] I λr J=>∃y:(Option Addr)×Nat×(List Ev)×Int,((r = .slice y.1 y.2.2.1.length y.2.1/\(EvOk n 500 y.2.2.1/\(y.2.2.1.length:Int)<=most))/\0<=y.2.2.2)/\J=[vc 63 (.slice y.1 y.2.2.1.length y.2.1) y.2.2.1]++F (deck b lv y.2.2.2):=
 Ep (Post:=λr (y:(Option Addr)×Nat×(List Ev)×Int)=>(r = .slice y.1 y.2.2.1.length y.2.1/\(EvOk n 500 y.2.2.1/\(y.2.2.1.length:Int)<=most))/\0<=y.2.2.2) (Z:=λy:(Option Addr)×Nat×(List Ev)×Int=>[vc 63 (.slice y.1 y.2.2.1.length y.2.1) y.2.2.1]) (X:=λy:(Option Addr)×Nat×(List Ev)×Int=>deck b lv y.2.2.2) M λJ _ hF=>MkEvents_base (λq=>(hl q).fit (hF _)) h0  hn hm
variable {κ:Ctx}{I:List Item}
theorem slideE_zeroH(h:HistOk nd kd wd mo es):slideE nd kd wd mo es=0:=by
 unfold slideE
 rw [if_neg (by simp [h.win])]
 have h1:=h.st.nodes
 have M:=h.st.len
 unfold streamE
 rw [if_neg om,if_neg om]
 exact streamS_ok h.st.fit h.st.asc es.length 0 om
theorem Slide_hist{va:Value}(M:Sl κ I va es)(h:HistOk nd kd wd mo es):eu prog κ 132 [e7 nd,va,.agg #[e7 kd,e7 wd,e7 mo]] I λr J=>∃a c,r = .tuple #[.slice a (slideS kd wd mo es).2.length c,e7 0]/\J=vc 63 (.slice a (slideS kd wd mo es).2.length c) (slideS kd wd mo es).2::I:=
 (Slide_ok M).mono λr J hh=>by
  rcases hh with ⟨h1,_⟩|⟨a,c,_,h2,h3⟩
  ·exact absurd (slideE_zeroH h) h1
  exact ⟨a,c,h2,h3⟩
theorem Fit.one{κ:Ctx}{x:Item}{I:List Item}:Fit κ (x::I) [x]:=Fit.of_sublist (List.Sublist.cons_cons _ (List.nil_sublist _))
theorem Fit.mid{κ:Ctx}{A L T:List Item}:Fit κ (A++(L++T)) (A++T):=Fit.of_sublist (List.Sublist.append (List.Sublist.refl _) (List.sublist_append_right _ _))
theorem at_zero_drop{α:Type}[Inhabited α](xs:List α)(l:Nat):e_ (xs.drop l) 0=e_ xs l:=by
 rw [at_drop xs l 0 (Int.le_refl _),Int.add_zero]
theorem links_len{X:List Lk}(h:checkS nd X=0):X.length<=2016:=by
 have:=edges_le (edgesK_ok h)
 rwa [edgesK_len] at this
structure MomentX (E:List Ev) (fst:Bool) (j:Nat) (t:Int) (own:Bool) (j':Nat):Prop extends Moment E fst j t own j' where
 adv:fst=false->j<j'
theorem Frames1_ok{l bf ba a9:Nat}{σ τ:Type}{Lf:σ->List Item}{Pf:Bool->Nat->σ->Prop}{Xf:τ->List Item}{Qf:τ->Prop}{s0:σ}(hH:HistOk nd kd wd mo es)(hlen:es.length<=19)(h1:BlkRd κ I bf [e7 nd] 3)(h2:BlkRd κ I ba [.slice ea es.length ec] 28)(h3:BlkRd κ I a9 [e7 kd,e7 wd,e7 mo] 31)(hx:Sl κ I (.slice ea es.length ec) es)(bq:Pf true 0 s0) (hy:∀T:List Item,Fit κ T I->∀(fst:Bool) (j:Nat) (t:Int) (own:Bool) (j':Nat) (a:Option Addr) (c:Nat),MomentX (allE kd wd mo es) fst j t own j'->∀s,Pf fst j s->
      YieldB prog κ l [.agg #[e7 t,.bool own],.agg #[e7 nd,.slice a (edgesK (eh ((allE kd wd mo es).take j'))).length c]] (Lf s++(vc 95 (.slice a (edgesK (eh ((allE kd wd mo es).take j'))).length c) (edgesK (eh ((allE kd wd mo es).take j')))::T)) λb J=>(b=true/\∃s',Pf false j' s'/\J=Lf s'++T)\/(b=false/\∃q,Qf q/\J=Xf q++T)):eu prog κ 131 [(.func (.yield l) #[] #[]),.pointer (some ⟨bf,0,none⟩),.pointer (some ⟨ba,0,none⟩),.pointer (some ⟨a9,0,none⟩)] (Lf s0++I) (λr J=>r = .tuple #[]/\((∃s,Pf false (allE kd wd mo es).length s/\J=Lf s++I)\/∃q,Qf q/\J=Xf q++I)):=by
 obtain ⟨EE,ar⟩:∃EE,allE kd wd mo es=EE:=⟨_,rfl⟩
 rw [ar] at hy ⊢
 have ao:∀e∈EE,FitOk nd e:=by rw [←ar];exact hH.allFit
 refine Bu (hx.fit<|Fw _ _).le λb2=>?_
 refine Ce4 Tryz.func131 C C ?_
 refine Ar<|Gr (Cs ef C (Co h1 Ah) C)<|Gr (Cs ty28 C (Co h2 Ah) C)<|Gr (Runs.loadBs (vs:=[_,_,_]) ty31 C (Co h3 Ah) C C) ?_
 refine G.e (Ac c_ C C<|Slide_hist (nd:=nd) (kd:=kd) (wd:=wd) (mo:=mo) (es:=es) (Au hx) hH) ?_
 rintro _ _ ⟨_,_,⟨bc,a6,rfl,rfl⟩,rfl,rfl⟩
 refine Z ?_
 generalize hSE:(slideS kd wd mo es).2=SE
 have az:∀e∈SE,FitOk nd e:=by rw [←hSE];exact hH.fit
 have b8:SE.length<=38:=by rw [←hSE];have:=hH.len2;omega
 have bg:(eh SE).length<=19:=by rw [←hSE];have:=hH.len;omega
 refine Z ?_
 refine Gr (Cs ef C (Co h1 Ah) C)<|Z ?_
 refine Ge1 (Am ty130 C) λb3=>Ge0 (Cf ty130) ?_
 refine G.fit (J:=vc 192 (.slice none 0 0) (([]:List Lk))::e8 b3 [e7 nd,.slice none 0 0] 130::vc 63 (.slice bc (SE).length a6) (SE)::(Lf s0++I)) (Bw (α:=Lk) _ _)<|Z ?_
 refine D7 (σ:=Nat×(Option Addr)×Nat) (λs=>[(24,e7 ((s.1:Nat):Int))]) (λs=>[vc 192 (.slice s.2.1 (eh<|SE.take s.1).length s.2.2) (eh<|SE.take s.1),e8 b3 [e7 nd,.slice s.2.1 (eh<|SE.take s.1).length s.2.2] 130]) (λs=>(s.1<=SE.length)) (λs=>SE.length - s.1) (0,none,0) (show ((0:Nat)<=SE.length) from om) ?_
 rintro ⟨k,a,c⟩ hp
 dsimp only at hp ⊢
 have hk:=hp
 have a1:=links_val hH.st.nodes az k
 have bp:=links_len a1
 refine Z ?_
 refine Ap C (λbm=>Z ?_)<|λbm=>Z ?_
 ·refine Ge1 (Am ty63 C) λb4=>Ge0 (Fj ty63) (Z ?_)
  refine G.e (Ac c_ C C<|Cv (J:=vc 192 (.slice a (eh<|SE.take k).length c) (eh<|SE.take k)::e8 b4 [e7 ((e_ SE k).kd),e7<|(e_ SE k).tm,e7<|(e_ SE k).u,e7<|(e_ SE k).v,e7<|(e_ SE k).w,e7<|(e_ SE k).lb,e7<|(e_ SE k).sg] 63::e8 b3 [e7 nd,.slice a (eh<|SE.take k).length c] 130::vc 63 (.slice bc (SE).length a6) (SE)::(Lf s0++I)) Bb<|ApplyP_ok (nd:=nd) (e:=(e_ SE k)) (xs:=eh (SE.take k)) asm (by first|exact az _ (Bx om om)|(rw [ai];exact ao _<|Bx om om)) om) ?_
  rintro _ _ ⟨_,_,⟨bo,bn,b7,rfl,rfl⟩,rfl,rfl⟩
  refine Z ?_
  refine Ge0 (Cf ty130)<|Z ?_
  exact B5 ((k+1),(bo),(bn)) (by dsimp only;exact om) (hI:=by (try dsimp only);exact (by rw [linksL_take om];exact Bb))
 refine Gr (Runs.loadBs (vs:=[_,_,_]) ty31 C (Co h3 Ah) C C) ?_
 refine G.e (Ac c_ C C<|Late_ok (nd:=nd) (kd:=kd) (wd:=wd) (mo:=mo) A7 asm (checkW_wd hH.win)<|by rw [show k=SE.length by omega,List.take_length];exact bg) ?_
 rintro _ _ ⟨_,_,⟨ce,ca,rfl,rfl⟩,rfl,rfl⟩
 refine Ge2 (B4 (α:=Ev) (e:=63) (xs:=SE) (ys:=isortG evC (lateL kd wd<|eh<|SE.take k)) Bc ty63 C C C mm A7 (by first|omega|(have b9:=(isort_permG evC<|lateL kd wd<|eh<|SE.take k).length_eq;have cc:=lateL_len kd wd (eh<|SE.take k);omega)) dc C<|λ_ _=>am) λM aa=>Z ?_
 have bk:SE++(isortG evC<|lateL kd wd<|eh<|SE.take k)=EE:=by rw [←ar,show k=SE.length by omega,List.take_length];unfold allE;rw [hSE]
 rw [bk]
 refine G.fit (J:=vc 192 (.slice a (eh<|SE.take k).length c) (eh<|SE.take k)::e8 b3 [e7 nd,.slice a (eh<|SE.take k).length c] 130::vc 63 (.slice M EE.length aa) (EE)::(Lf s0++I)) Bb ?_
 have be:Sl κ [vc 63 (.slice M EE.length aa) EE] (.slice M (List.drop 0 EE).length aa) (List.drop 0 EE):=Em List.mem_cons_self
 refine Z ?_
 refine Gr (Cs ef C (Co h1 Ah) C)<|Z ?_
 refine Ge0 (Cf ty130)<|Z ?_
 refine Ge1 (Am ty115 C) λbi=>Ge0 (Cf ty115) ?_
 refine As<|Bk<|Cn (σ:=Nat×Bool×Nat×Int×(Option Addr)×Nat×(Option Addr)×Nat×σ) (λs=>([(0,(.func (.yield l) #[] #[])),(5,.slice s.2.2.2.2.1 (List.drop s.1 EE).length s.2.2.2.2.2.1),(7,.pointer<|some ⟨b3,0,none⟩),(10,.pointer<|some ⟨s.2.2.1,0,none⟩)]:Env)) (λs=>e8 s.2.2.1 [e7 (s.2.2.2.1),.bool false] 115::vc 192 (.slice s.2.2.2.2.2.2.1 (eh<|EE.take s.1).length s.2.2.2.2.2.2.2.1) (eh<|EE.take s.1)::e8 b3 [e7 nd,.slice s.2.2.2.2.2.2.1 (eh<|EE.take s.1).length s.2.2.2.2.2.2.2.1] 130::vc 63 (.slice M EE.length aa) (EE)::(Lf s.2.2.2.2.2.2.2.2++I)) (λs=>(s.1<=EE.length)/\(s.2.1=true->s.2.2.2.1=0/\s.1=0)/\(s.2.1=false->s.1<EE.length/\s.2.2.2.1=(e_ EE ((s.1:Nat):Int)).tm)/\(Pf s.2.1 s.1 s.2.2.2.2.2.2.2.2)/\(Sl κ [vc 63 (.slice M EE.length aa) EE] (.slice s.2.2.2.2.1 (List.drop s.1 EE).length s.2.2.2.2.2.1)<|List.drop s.1 EE)) (λs=>2*(EE.length - s.1)+s.2.1.toNat) (0,true,bi,0,M,aa,none,0,s0) ⟨om,(λ_=>⟨rfl,rfl⟩),(λh=>by cases h),bq,be⟩ (Ab C<|Ab (El C<|by first|rfl|simp)<|Ab C<|Ab (El C<|by first|rfl|simp) Bs) (Ak (Bw (α:=Lk) _ _) Bb) ?_
 rintro ⟨j,fst,tb,tt,e1,d1,a,c,aq⟩ hp
 dsimp only at hp ⊢
 obtain ⟨hj,ay,au,bj,bt⟩:=hp
 have bw:(fst=true/\fst.toNat=1)\/(fst=false/\fst.toNat=0):=by cases fst<;>simp
 refine A5<|Bk<|E8 (σ:=Nat×Bool×(Option Addr)×Nat×(Option Addr)×Nat) (λs=>([(0,(.func (.yield l) #[] #[])),(5,.slice s.2.2.1 (List.drop s.1 EE).length s.2.2.2.1),(7,.pointer<|some ⟨b3,0,none⟩),(10,.pointer<|some ⟨tb,0,none⟩)]:Env)) (λs=>e8 tb [e7 tt,.bool<|s.2.1] 115::vc 192 (.slice s.2.2.2.2.1 (eh<|EE.take s.1).length s.2.2.2.2.2) (eh<|EE.take s.1)::e8 b3 [e7 nd,.slice s.2.2.2.2.1 (eh<|EE.take s.1).length s.2.2.2.2.2] 130::vc 63 (.slice M EE.length aa) (EE)::(Lf aq++I)) (λs=>(MomentX EE fst j tt s.2.1 s.1)/\(Sl κ [vc 63 (.slice M EE.length aa) EE] (.slice s.2.2.1 (List.drop s.1 EE).length s.2.2.2.1)<|List.drop s.1 EE)) ?_ ?_
 ·refine Bk (D7 (σ:=Nat×Bool×(Option Addr)×Nat×(Option Addr)×Nat) (λs=>[(5,.slice s.2.2.1 (List.drop s.1 EE).length s.2.2.2.1)]) (λs=>[e8 tb [e7 tt,.bool<|s.2.1] 115,vc 192 (.slice s.2.2.2.2.1 (eh<|EE.take s.1).length s.2.2.2.2.2)<|eh<|EE.take s.1,e8 b3 [e7 nd,.slice s.2.2.2.2.1 (eh<|EE.take s.1).length s.2.2.2.2.2] 130]) (λs=>(j<=s.1/\s.1<=EE.length)/\(∀i:Nat,j<=i->i<s.1->(e_ EE i).tm=tt)/\(s.2.1=decide (j<s.1))/\(Sl κ [vc 63 (.slice M EE.length aa) EE] (.slice s.2.2.1 (List.drop s.1 EE).length s.2.2.2.1)<|List.drop s.1 EE)) (λs=>EE.length - s.1) (j,false,e1,d1,a,c) ⟨om,(λi h1 h2=>by omega),(by rw [decide_eq_false om]),bt⟩ ?_)
  rintro ⟨j2,own,e2,d2,a4,c4⟩ hp
  dsimp only at hp ⊢
  obtain ⟨cb,aj,ax,ab⟩:=hp
  have ai:=at_zero_drop EE j2
  have cd:(List.drop j2 EE).length=EE.length - j2:=List.length_drop
  have a1:=links_val hH.st.nodes ao j2
  have bp:=links_len a1
  refine A5<|A5<|A4 mixed<|Cr 12<|Z ?_
  refine Du (d:=47) C (λbv=>?_)<|λbv=>?_
  ·refine Dro 4 C (Af C) (Dro 5 C (Az (α:=Ev) (xs:=List.drop j2 EE) Bc ty63 C C (Bm ab f1) om om)<|Dro 6 C (Ez (α:=Ev) (xs:=List.drop j2 EE) fld63_1 C (Bm ab f1) om)<|Dro 7 C (Fb (α:=Ev) (xs:=List.drop j2 EE) (u:=e7 ((e_ (List.drop j2 EE) 0).tm)) ef C (Bm ab f1) om om C)<|Z ?_)
   refine Ap C (λap=>Z ?_)<|λap=>Z ?_
   ·refine A4 mixed (Cm (e8 tb [e7 tt,.bool own] 115::vc 63 (.slice M EE.length aa) (EE)::(Lf aq++I)) 10<|Dr 1 C (Af C)<|Dr 2 C (Az (α:=Ev) (xs:=List.drop j2 EE) Bc ty63 C C (Bm ab f1) om om)<|Dr 3 C (Dt (α:=Ev) (xs:=List.drop j2 EE) ty63 C (Bm ab f1) om om)<|Ds1 0<|Sr C (Bl (vs:=[_,_]) ty130) Aj ?_)
    refine Ds1 4<|Se C (Ac c_ C C<|Cv (J:=vc 192 (.slice a4 (eh<|EE.take j2).length c4) (eh<|EE.take j2)::e8 tb [e7 tt,.bool own] 115::e8 b3 [e7 nd,.slice a4 (eh<|EE.take j2).length c4] 130::vc 63 (.slice M EE.length aa) (EE)::(Lf aq++I)) Bb<|ApplyP_ok (nd:=nd) (e:=(e_ (List.drop j2 EE) 0)) (xs:=eh (EE.take j2)) asm (by first|exact az _ (Bx om om)|(rw [ai];exact ao _<|Bx om om)) om) ?_
    rintro _ _ ⟨_,_,⟨a8,bb,bz,rfl,rfl⟩,rfl,rfl⟩
    refine ⟨Aj,?_⟩
    refine Z ?_
    refine Ds1 9<|Se0 C (Cf ty130)<|Z ?_
    refine Gr (Eb (α:=Ev) (xs:=List.drop j2 EE) (l:=1) Bc ty63 C C om (Bm ab f1) om)<|Z ?_
    refine Ge0 (Es2_1 ty4) ?_
    exact Bi<|Av<|B5 ((j2+1),(true),((adrop e2 d2 1<|Enc.sz Ev)),((d2 - 1)),(a8),(bb)) (by dsimp only;exact ⟨om,(λi h1 h2=>by by_cases e:i=j2;(· subst e;rw [←ai];assumption);(· exact aj i h1 om)),(by rw [decide_eq_true om]),(by have h:=C8 (l:=1) ab om;rw [List.drop_drop] at h;exact h)⟩) (hI:=by (try dsimp only);exact (by rw [linksL_take om,←ai];exact Bb))
   exact Cg ((j2),(own),(e2),(d2),(a4),(c4))<|by dsimp only;exact ⟨(⟨⟨by omega,aj,λh=>by first|(rw [←ai];assumption)|(exfalso;omega),ax,ay,au⟩,λa3=>by have hq:=au a3;rcases Nat.lt_or_ge j j2 with hlt|hge;(· exact hlt);(· exfalso;have a0:j2=j:=om;subst a0;first|omega|(rw [ai] at ap;exact ap hq.2.symm))⟩),ab⟩
  refine Dpo 4 C<|Z ?_
  exact Cg ((j2),(own),(e2),(d2),(a4),(c4))<|by dsimp only;exact ⟨(⟨⟨by omega,aj,λh=>by first|(rw [←ai];assumption)|(exfalso;omega),ax,ay,au⟩,λa3=>by have hq:=au a3;rcases Nat.lt_or_ge j j2 with hlt|hge;(· exact hlt);(· exfalso;have a0:j2=j:=om;subst a0;first|omega|(rw [ai] at ap;exact ap hq.2.symm))⟩),ab⟩
 rintro ⟨j3,ah,e3,d3,a5,c5⟩ hp
 obtain ⟨av,ak⟩:(MomentX EE fst j tt ah j3)/\(Sl κ [vc 63 (.slice M EE.length aa) EE] (.slice e3 (List.drop j3 EE).length d3)<|List.drop j3 EE):=hp
 have b6:=av.le
 have b5:(List.drop j3 EE).length=EE.length - j3:=List.length_drop
 refine Z ?_
 refine Gc2 (Ac c_ C C<|LGraph_ok (nd:=nd) A7 (links_val hH.st.nodes ao j3)<|by have:=links_len (links_val hH.st.nodes ao j3);omega) λad ae=>Z ?_
 refine Ge1 (Am ty56 C) λaw=>Ge0 (Cf ty56) ?_
 refine Ga C<|As<|A5<|A5<|W.regionI ?_
 refine E4 (Ba C) C C (Af C) ?_
 refine E4 (Ba C) C C (Bl (vs:=[_,_]) ty115) ?_
 refine E4 (Ba C) C C (Bl (vs:=[_,_]) ty56) ?_
 refine GY.yieldB (l:=l) (Ba C) C C C (YieldB.fit (Ak Bb<|Et<|Fh (A:=[vc 95 (.slice ad (edgesK<|eh<|EE.take j3).length ae) (edgesK<|eh<|EE.take j3),e8 aw [e7 nd,.slice ad (edgesK<|eh<|EE.take j3).length ae] 56,e8 tb [e7 tt,.bool ah] 115,vc 192 (.slice a5 (eh<|EE.take j3).length c5)<|eh<|EE.take j3,e8 b3 [e7 nd,.slice a5 (eh<|EE.take j3).length c5] 130,vc 63 (.slice M EE.length aa) EE]) (L:=Lf aq) (T:=I))<|hy ([e8 aw [e7 nd,.slice ad (edgesK<|eh<|EE.take j3).length ae] 56,e8 tb [e7 tt,.bool ah] 115,vc 192 (.slice a5 (eh<|EE.take j3).length c5)<|eh<|EE.take j3,e8 b3 [e7 nd,.slice a5 (eh<|EE.take j3).length c5] 130,vc 63 (.slice M EE.length aa) EE]++I) (Fw _ _) fst j tt ah j3 ad ae av aq bj) ?_
 rintro b _ (⟨rfl,an,a7,rfl⟩|⟨rfl,q_,bx,rfl⟩)
 ·refine GY.fit (J:=e8 aw [e7 nd,.slice ad (edgesK<|eh<|EE.take j3).length ae] 56::e8 tb [e7 tt,.bool ah] 115::vc 192 (.slice a5 (eh<|EE.take j3).length c5) (eh<|EE.take j3)::e8 b3 [e7 nd,.slice a5 (eh<|EE.take j3).length c5] 130::vc 63 (.slice M EE.length aa) (EE)::(Lf an++I)) (Et<|Fh (A:=Lf an) (L:=[e8 aw [e7 nd,.slice ad (edgesK<|eh<|EE.take j3).length ae] 56,e8 tb [e7 tt,.bool ah] 115,vc 192 (.slice a5 (eh<|EE.take j3).length c5)<|eh<|EE.take j3,e8 b3 [e7 nd,.slice a5 (eh<|EE.take j3).length c5] 130,vc 63 (.slice M EE.length aa) EE]) (T:=I)) ?_
  dsimp only
  refine E4 (Ba C) C C (Cd C) ?_
  refine E4 (Ba C) C C (Af C) ?_
  refine E4 (B7 C C C) C C (Af C) ?_
  refine E4 (B7 C C C) C C (Ca Bc C) ?_
  refine E4 (B7 C C C) C C (Fu C C) ?_
  refine E4 (Ba C) C C (Ao C C) ?_
  refine GY.nil<|Z ?_
  refine Ap C (λbr=>Z ?_)<|λbr=>?_
  ·have bu:j3=EE.length:=by omega
   exact V.ret0 C ((Lf an++I)) (by repeat (first|exact Fv _|apply Fit.tail)) ⟨rfl,.inl ⟨an,by rw [←bu];exact a7,rfl⟩⟩
  refine Bt<|Ay<|Be<|Gm C<|Gr (Az (α:=Ev) (xs:=List.drop j3 EE) Bc ty63 C C (Bm ak f1) om om)<|Gr (Ez (α:=Ev) (xs:=List.drop j3 EE) fld63_1 C (Bm ak f1) om)<|Gr (Fb (α:=Ev) (xs:=List.drop j3 EE) (u:=e7 ((e_ (List.drop j3 EE) 0).tm)) ef C (Bm ak f1) om om C) ?_
  rw [at_zero_drop EE j3]
  refine Z ?_
  refine Ge0 (Cf ty115)<|Z ?_
  refine Ge1 (Am ty115 C) λbh=>Ge0 (Cf ty115) ?_
  exact Bi<|B5 ((j3),(false),(bh),((e_ EE j3).tm),(e3),(d3),(a5),(c5),(an)) (by dsimp only;exact ⟨om,(λh=>by cases h),(λ_=>⟨by omega,rfl⟩),a7,ak⟩) (hlt:=by (try dsimp only);exact (by show 2*(EE.length - j3)+0<2*(EE.length - j)+fst.toNat;rcases bw with h|h;(· omega);(· have:=av.le;have:=av.adv h.1;omega)))
 refine GY.fit (J:=Xf q_++I) Fit.mid ?_
 refine E4 (Ba C) C C (Cd C) ?_
 refine E4 (Ba C) C C (Af C) ?_
 refine GY.pass (Unwanted.off C C C) C C ?_
 refine GY.pass (Unwanted.off C C C) C C ?_
 refine GY.pass (Unwanted.off C C C) C C ?_
 refine E4 (Ba C) C C (A2 C C) ?_
 refine GY.nil<|Z ?_
 exact V.ret0 C ((Xf q_++I)) (Fv _) ⟨rfl,.inr ⟨q_,bx,rfl⟩⟩
end Go.Sl
namespace Go.Sl
open Go.RowKit (Below)
section
variable {P:Program}{κ:Ctx}{N:Frm}{L:Env}{I J:List Item}{l:Nat}{body:Code}{R:Ending->World->Prop}
def RB(P:Program)(l:Nat)(body:Code)(R:Ending->World->Prop):Exit->Act->World->Prop:=
 Exit.then (λa₁ w₁=>∃w₂,(Instr.beginRound l).run P w₁ = .ok () w₂/\body.wpIn (Fence.wide.inRound l) 0 P (roundPost P l R) a₁ w₂) (λ_ _ _=>False)
theorem V.begin{r:Loop}(J:List Item)(hf:Fit κ I (recI l r::J))(aa:r.state = .ready/\r.pending=none)(h:WR P κ N l 0 body (roundPost P l R) L (recI l {r with state:= .busy}::J)):V κ N (RB P l body R) .normal L I:=λa w ha hs=>by
 have M:=hf w hs
 have hl:=(M.ok _ List.mem_cons_self).1
 exact ⟨_,run_beginRound hl aa.1,h a _ ha M.putRec⟩
theorem YieldB.mkA{r:Loop}{Post:Bool->List Item->Prop}{M:List Value}{L₀:Env}{assign:Code}(aa:M.length=r.params.size)(ha:r.assign=assign)(hb:r.body=body)
  (ab:Ag N {tmps:=(r.params.zip M.toArray).foldl (λt (p,v)=>t.setIfInBounds p v) r.tmps,defers:=[]} L₀)
  (h:WR P κ N l 0 assign (RB P l body λe w'=>∃b,e = .returned (.bool b)/\∃K,Post b K/\Sep κ w' K) L₀ (recI l r::I)):YieldB P κ l M (recI l r::I) Post:=λw hs=>by
 have hl:=(hs.ok _ List.mem_cons_self).1
 subst ha hb
 exact ⟨_,_,_,_,run_yield hl<|by simpa using aa,roundIn_of_wpIn trivial<|h _ w ab hs⟩
theorem ag_two{tm:Array Value}{v u:Value}{p q:Nat}(M:Ag ⟨N.n,[]⟩ {tmps:=tm,defers:=[]} L)(hp:Nat.blt p N.n=true)(hq:Nat.blt q N.n=true):Ag ⟨N.n,[]⟩ {tmps:=(tm.setIfInBounds p v).setIfInBounds q u,defers:=[]} ((q,u)::(p,v)::L):=(M.put p hp v).put q hq u
end
end Go.Sl
namespace Go.Sl
open Go.Proofs
set_option maxRecDepth 4000
variable{kd mo nd tm tq wd:Int}{va:Value}{es:List Ev}{ec j j1:Nat}{fst own:Bool}
variable {κ:Ctx}{I:List Item}
attribute [local irreducible] W G V D A Runs Eff
theorem HCheck_ok(M:Sl κ I va es):eu prog κ 30 [e7 nd,va] I (λr J=>r=e7 (streamE nd es)/\I=J):=by
 refine Ce2 Tryz.func30 C C<|Z ?_
 refine G.e (Ac c_ C C<|Stream_ok (nd:=nd)<|Au M) ?_
 rintro _ _ ⟨_,_,⟨rfl,rfl⟩,rfl,rfl⟩
 exact Ga C<|As<|Bf<|Ai C C I Ah ⟨rfl,rfl⟩
theorem ACheck_ok(M:Sl κ I va es):eu prog κ 26 [e7 nd,va,.agg #[e7 kd,e7 wd,e7 mo]] I (λr J=>r=e7 (slideE nd kd wd mo es)/\I=J):=by
 refine Ce3 Tryz.func26 C C ?_
 refine Ar<|Ge1 (Al (cs:=[_,_,_]) C C C) λb1=>Z ?_
 refine G.e (Ac c_ C C<|CheckW_ok kd wd mo) ?_
 rintro _ _ ⟨_,_,⟨rfl,rfl⟩,rfl,rfl⟩
 refine Z ?_
 refine Ap C (λc11=>Z ?_)<|λc11=>Z ?_
 ·exact Ai C C I Ah ⟨by unfold slideE;rw [if_pos c11],rfl⟩
 refine Gc0 (Ac c_ C C<|HCheck_ok (nd:=nd)<|Au M)<|Z ?_
 exact Ai C C I Ah ⟨by unfold slideE;rw [if_neg c11],rfl⟩
theorem Frames_ok{M:Option Addr}{en:Nat} :
    eu prog κ 76 [e7 nd,.slice M en ec,.agg #[e7 kd,e7 wd,e7 mo]] I (λr J=>∃q1 q2 q3,r = .func (.func 131) #[] #[.pointer (some ⟨q1,0,none⟩),.pointer<|some ⟨q2,0,none⟩,.pointer<|some ⟨q3,0,none⟩]/\J=e8 q3 [e7 kd,e7 wd,e7 mo] 31::e8 q2 [.slice M en ec] 28::e8 q1 [e7 nd] 3::I):=by
 refine Ce3 Tryz.func76 C C ?_
 exact Ar<|Ge1 (Al (cs:=[_]) C C C) λb1=>Ge1 (Al (cs:=[_]) C C C) λb2=>Ge1 (Al (cs:=[_,_,_]) C C C) λb3=>Ga C<|As<|Ar<|Gr (Ec C C)<|Ga C<|As<|Bf<|Ai C C (e8 b3 [e7 kd,e7 wd,e7 mo] 31::e8 b2 [.slice M en ec] 28::e8 b1 [e7 nd] 3::I) (Fv _) ⟨b1,b2,b3,rfl,rfl⟩
theorem at_end(h:∀i:Nat,i<(allE kd wd mo es).length->(e_ (allE kd wd mo es) i).tm<=tq):edgesK (eh ((allE kd wd mo es).take (allE kd wd mo es).length))=atG kd wd mo es tq:=by
 unfold atG
 rw [atK_stop (Nat.le_refl _) h λhlt=>absurd hlt<|Nat.lt_irrefl _]
theorem at_stop(hj:j<(allE kd wd mo es).length)(h:∀i:Nat,i<j->(e_ (allE kd wd mo es) i).tm<=tq)(M:tq<(e_ (allE kd wd mo es) j).tm):edgesK (eh ((allE kd wd mo es).take j))=atG kd wd mo es tq:=by
 unfold atG
 rw [atK_stop (Nat.le_of_lt hj) h λ_=>M]
theorem atm_all{E:List Ev}(hM:MomentX E fst j tm own j1)(M:tm<=tq)(hq:fst=false->∀i:Nat,i<j->(e_ E i).tm<=tq):∀i:Nat,i<j1->(e_ E i).tm<=tq:=λi hi=>by
 by_cases h:i<j
 ·cases hf:fst with
  |true=>have:=(hM.first hf).2;omega
  |false=>exact hq hf i h
 rw [hM.same i om hi];exact M
theorem at_left{gn:Int}{X:List Pt}(M:MomentX (allE kd wd mo es) fst j tm own j1)(aa:j<=(allE kd wd mo es).length)(hlt:tq<tm)(h0:0<=tq)
  (hq:fst=false->gn=nd/\X=edgesK (eh<|(allE kd wd mo es).take j)/\∀i:Nat,i<j->(e_ (allE kd wd mo es) i).tm<=tq):gn=nd/\X=atG kd wd mo es tq:=by
 cases hf:fst with
 |true=>have:=(M.first hf).1;omega
 |false=>
  obtain ⟨h1,h2⟩:=M.next hf
  obtain ⟨q1,q2,q3⟩:=hq hf
  exact ⟨q1,q2.trans<|at_stop h1 q3 om⟩
theorem At_ok{ea:Option Addr}(hl:Sl κ I (.slice ea es.length ec) es)(hH:HistOk nd kd wd mo es)(hlen:es.length<=19)(ht:0<=tq/\tq<=1048576):eu prog κ 37 [e7 nd,.slice ea es.length ec,.agg #[e7 kd,e7 wd,e7 mo],e7 tq] I (λr J=>∃a c,r = .tuple #[.agg #[e7 nd,.slice a (atG kd wd mo es tq).length c],e7 0]/\J=vc 95 (.slice a (atG kd wd mo es tq).length c) (atG kd wd mo es tq)::I):=by
 refine eu.enterM (L:=[(0,e7 nd),(1,.slice ea es.length ec),(2,.agg #[e7 kd,e7 wd,e7 mo]),(3,e7 tq)]) Tryz.func37 C C C C ?_
 refine Ar<|Ge1 (Al (cs:=[_,_,_]) C C C) λb1=>Ge1 (Al (cs:=[_]) C C C) λb2=>Ge1 (Am ty56 C) λb3=>Z ?_
 refine Gc0 (Ac c_ C C<|ACheck_ok (nd:=nd) (kd:=kd) (wd:=wd) (mo:=mo)<|Au hl)<|Z ?_
 refine Ap C (λae=>?_)<|λae=>Z ?_
 ·exact absurd (slideE_zeroH hH) ae
 refine A6 (d:=24) C (λav=>?_)<|λav=>Z ?_
 ·omega
 refine Z ?_
 refine Bg (S6 27 8 7 6 0 1 C C C C C C)<|Ap C (λaq=>?_)<|λaq=>?_
 ·omega
 refine Bt<|Ay<|Ar<|Ge1 (Am ty56 C) λb4=>As<|A5<|Ar<|Gm C<|Gm C<|Gl3 ty31 ?_
 refine G.e (Ac c_ C C Frames_ok) ?_
 rintro _ _ ⟨_,_,⟨ab,aa,M,rfl,rfl⟩,rfl,rfl⟩
 refine As<|Bk<|W.fit (J:=e8 b4 [e7 0,.slice none 0 0] 56::vc 95 (.slice none 0 0) (([]:List Pt))::e8 M [e7 kd,e7 wd,e7 mo] 31::e8 aa [.slice ea es.length ec] 28::e8 ab [e7 nd] 3::e8 b3 [e7 0,.slice none 0 0] 56::e8 b2 [e7 tq] 3::e8 b1 [e7 kd,e7 wd,e7 mo] 31::I) (Ak (Bw 95 _) Bb) ?_
 refine W.rangeFnB (gf:=131) (lb:=[.pointer (some ⟨ab,0,none⟩),.pointer<|some ⟨aa,0,none⟩,.pointer<|some ⟨M,0,none⟩]) C c_ λDm l rc ai ak an au ap=>?_
 refine (Frames1_ok (I:=e8 M [e7 kd,e7 wd,e7 mo] 31::e8 aa [.slice ea es.length ec] 28::e8 ab [e7 nd] 3::e8 b3 [e7 0,.slice none 0 0] 56::e8 b2 [e7 tq] 3::e8 b1 [e7 kd,e7 wd,e7 mo] 31::I) (σ:=Int×(Option Addr)×Nat×(List Pt)) (τ:=Int×(Option Addr)×Nat×(List Pt)) (l:=l) (Lf:=λs=>[recI l rc,dfrI Dm,e8 b4 [e7 (s.1),.slice s.2.1 s.2.2.2.length s.2.2.1] 56,vc 95 (.slice s.2.1 s.2.2.2.length s.2.2.1)<|s.2.2.2]) (Pf:=λfst j s=>(fst=false->s.1=nd/\s.2.2.2=edgesK (eh<|(allE kd wd mo es).take j)/\∀i:Nat,i<j->(e_ (allE kd wd mo es) i).tm<=tq)/\(j<=(allE kd wd mo es).length)) (Xf:=λs=>[recI l {rc with state:= .done,pending:=some (.exit 0)},dfrI Dm,e8 b4 [e7 (s.1),.slice s.2.1 s.2.2.2.length s.2.2.1] 56,vc 95 (.slice s.2.1 s.2.2.2.length s.2.2.1)<|s.2.2.2]) (Qf:=λs=>(s.1=nd/\s.2.2.2=atG kd wd mo es tq)) (s0:=(0,none,0,([]:List Pt))) hH hlen (Cw mm) (Cw mm) (Cw mm) (Au hl) ⟨λh=>(by cases h),Nat.zero_le _⟩ ?_).mono ?_
 ·rintro T ao fst j tm own j1 ga gc hM ⟨gn,a,c,X⟩ hp
  obtain ⟨hq,ah⟩:(fst=false->gn=nd/\X=edgesK (eh<|(allE kd wd mo es).take j)/\∀i:Nat,i<j->(e_ (allE kd wd mo es) i).tm<=tq)/\(j<=(allE kd wd mo es).length):=hp
  have ar:BlkRd κ T b2 [e7 tq] 3:=(Cw (I:=e8 M [e7 kd,e7 wd,e7 mo] 31::e8 aa [.slice ea es.length ec] 28::e8 ab [e7 nd] 3::e8 b3 [e7 0,.slice none 0 0] 56::e8 b2 [e7 tq] 3::e8 b1 [e7 kd,e7 wd,e7 mo] 31::I) mm).fit ao
  refine YieldB.fit (J:=recI l rc::vc 95 (.slice ga (edgesK<|eh<|(allE kd wd mo es).take j1).length gc) (edgesK<|eh<|(allE kd wd mo es).take j1)::dfrI Dm::e8 b4 [e7 gn,.slice a X.length c] 56::vc 95 (.slice a X.length c) (X)::T) Bb ?_
  refine YieldB.mkA (L₀:=[(34,.agg #[e7 nd,.slice ga (edgesK<|eh<|(allE kd wd mo es).take j1).length gc]),(33,.agg #[e7 tm,.bool own]),(32,.func (.func 131) #[] #[.pointer (some ⟨ab,0,none⟩),.pointer<|some ⟨aa,0,none⟩,.pointer<|some ⟨M,0,none⟩]),(31,.agg #[e7 kd,e7 wd,e7 mo]),(30,.slice ea es.length ec),(29,e7 nd),(11,.pointer<|some ⟨b4,0,none⟩),(27,.bool<|decide<|1048576<tq),(8,.pointer<|some ⟨b3,0,none⟩),(7,.pointer<|some ⟨b2,0,none⟩),(6,.pointer<|some ⟨b1,0,none⟩),(0,e7 nd),(1,.slice ea es.length ec)]) (by rw [ak];rfl) an au (by rw [ak,fold_two];exact ag_two ap C C) ?_
  refine Ex ?_
  refine Dp (λ_ _ h=>False.elim h) C ?_
  refine Ge1 (Am ty115 C) λb8=>Ge0 (Cf ty115) ?_
  refine Bi<|D9 ?_
  refine Fk (L':=[(12,_),(34,_),(11,_),(7,_)]) (Ab C<|Ab C<|Ab C<|Ab C Bs) ?_
  refine Dp (λ_ _ h=>False.elim h) C ?_
  refine Ge1 (Am ty56 C) λb9=>Ge0 (Cf ty56) ?_
  refine Bi<|V.begin (e8 b9 [e7 nd,.slice ga (edgesK<|eh<|(allE kd wd mo es).take j1).length gc] 56::e8 b8 [e7 tm,.bool own] 115::vc 95 (.slice ga (edgesK<|eh<|(allE kd wd mo es).take j1).length gc) (edgesK<|eh<|(allE kd wd mo es).take j1)::dfrI Dm::e8 b4 [e7 gn,.slice a X.length c] 56::vc 95 (.slice a X.length c) (X)::T) Bb ai ?_
  refine WR.block ?_
  refine Ex ?_
  refine Ex ?_
  refine Dp (λ_ _ h=>False.elim h) C<|Z ?_
  refine Gr (Cs ef C (Co ar Ah) C)<|Z ?_
  refine D9 ?_
  refine WR.ite C (λaw=>?_)<|λaw=>?_
  ·refine WR.exit ?_
   exact A9<|V.block_miss C<|V.roundX (dfrI Dm::e8 b4 [e7 gn,.slice a X.length c] 56::vc 95 (.slice a X.length c) (X)::T) Bb<|.inr ⟨rfl,(gn,a,c,X),(at_left hM ah om om hq),rfl⟩
  refine WR.skip ?_
  refine D9 ?_
  refine Dp (λ_ _ h=>False.elim h) C ?_
  refine Gl2 ty56 ?_
  refine Ge0 (Cf ty56) ?_
  refine Bi<|Av ?_
  have aj:∀i:Nat,i<j1->(e_ (allE kd wd mo es) i).tm<=tq:=atm_all hM om (λh=>(hq h).2.2)
  exact E5 (dfrI Dm::e8 b4 [e7 nd,.slice ga (edgesK<|eh<|(allE kd wd mo es).take j1).length gc] 56::vc 95 (.slice ga (edgesK<|eh<|(allE kd wd mo es).take j1).length gc) ((edgesK<|eh<|(allE kd wd mo es).take j1))::T) Bb ai<|.inl ⟨rfl,(nd,ga,gc,edgesK<|eh<|(allE kd wd mo es).take j1),⟨(λ_=>⟨rfl,rfl,aj⟩),hM.le.2⟩,rfl⟩
 rintro v K ⟨rfl,(⟨⟨gn,a,c,X⟩,hp,rfl⟩|⟨⟨gn,a,c,X⟩,hp,rfl⟩)⟩
 ·obtain ⟨hq,ah⟩:(false=false->gn=nd/\X=edgesK (eh<|(allE kd wd mo es).take (allE kd wd mo es).length)/\∀i:Nat,i<(allE kd wd mo es).length->(e_ (allE kd wd mo es) i).tm<=tq)/\((allE kd wd mo es).length<=(allE kd wd mo es).length):=hp
  refine .inl ⟨_,rfl,?_⟩
  show V κ _ _ .normal ([(32,.func (.func 131) #[] #[.pointer (some ⟨ab,0,none⟩),.pointer<|some ⟨aa,0,none⟩,.pointer<|some ⟨M,0,none⟩]),(31,.agg #[e7 kd,e7 wd,e7 mo]),(30,.slice ea es.length ec),(29,e7 nd),(11,.pointer<|some ⟨b4,0,none⟩),(27,.bool<|decide<|1048576<tq),(8,.pointer<|some ⟨b3,0,none⟩),(7,.pointer<|some ⟨b2,0,none⟩),(6,.pointer<|some ⟨b1,0,none⟩),(0,e7 nd),(1,.slice ea es.length ec)]:Env) (dfrI Dm::e8 b4 [e7 gn,.slice a X.length c] 56::vc 95 (.slice a X.length c) (X)::e8 M [e7 kd,e7 wd,e7 mo] 31::e8 aa [.slice ea es.length ec] 28::e8 ab [e7 nd] 3::e8 b3 [e7 0,.slice none 0 0] 56::e8 b2 [e7 tq] 3::e8 b1 [e7 kd,e7 wd,e7 mo] 31::I)
  have hX:X=atG kd wd mo es tq:=(hq rfl).2.1.trans (at_end (hq rfl).2.2)
  have ad:=(hq rfl).1
  refine Z ?_
  refine Ge0 (Cf ty56)<|Z ?_
  rw [hX,ad]
  refine V.fit (J:=dfrI Dm::e8 b4 [e7 nd,.slice a (atG kd wd mo es tq).length c] 56::vc 95 (.slice a (atG kd wd mo es tq).length c) ((atG kd wd mo es tq))::e8 M [e7 kd,e7 wd,e7 mo] 31::e8 aa [.slice ea es.length ec] 28::e8 ab [e7 nd] 3::e8 b3 [e7 nd,.slice a (atG kd wd mo es tq).length c] 56::e8 b2 [e7 tq] 3::e8 b1 [e7 kd,e7 wd,e7 mo] 31::I) Bb<|V.leave ?_
  exact D5 C ty56 C C mm C (vc 95 (.slice a (atG kd wd mo es tq).length c) (atG kd wd mo es tq)::I) Bb ⟨a,c,rfl,rfl⟩
 have hQ:(gn=nd/\X=atG kd wd mo es tq):=hp
 refine .inr ⟨_,_,rfl,?_⟩
 have hX:=hQ.2
 have ad:=hQ.1
 refine Z ?_
 refine Ge0 (Cf ty56)<|Z ?_
 rw [hX,ad]
 refine V.fit (J:=dfrI Dm::e8 b4 [e7 nd,.slice a (atG kd wd mo es tq).length c] 56::vc 95 (.slice a (atG kd wd mo es tq).length c) ((atG kd wd mo es tq))::e8 M [e7 kd,e7 wd,e7 mo] 31::e8 aa [.slice ea es.length ec] 28::e8 ab [e7 nd] 3::e8 b3 [e7 nd,.slice a (atG kd wd mo es tq).length c] 56::e8 b2 [e7 tq] 3::e8 b1 [e7 kd,e7 wd,e7 mo] 31::I) Bb<|V.leave ?_
 exact D5 C ty56 C C mm C (vc 95 (.slice a (atG kd wd mo es tq).length c) (atG kd wd mo es tq)::I) Bb ⟨a,c,rfl,rfl⟩
end Go.Sl
/- The links at a time, asked from the events of the window up to it and from what has expired by then. No conditions. -/
namespace Go.Sl
theorem gone_mem{kd wd mo nw:Int}{xs:List Lk}{e:Ev}(M:e∈goneL kd wd mo nw xs):e.kd=2/\e.tm=nw:=by
 unfold goneL at M
 obtain ⟨z,hz,rfl⟩:=List.mem_map.1 M
 exact ⟨rfl,rfl⟩
theorem slide3_asc{nd mo:Int}{es:List Ev}(h:StOk nd es):∀k,k<=es.length->(slideS 3 0 mo (es.take k)).2.Pairwise (λa b=>a.tm<=b.tm)/\∀e∈(slideS 3 0 mo (es.take k)).2,e.tm<=lastT es k
 |0,_=>⟨List.Pairwise.nil,λe he=>(by cases he)⟩
 |k+1,hk=>by
  have ih:=slide3_asc (mo:=mo) h k om
  have aa:=h.asc k om
  rw [slideS_succ om,evStep3]
  generalize slideS 3 0 mo (es.take k)=s at ih ⊢
  generalize hee:e_ es k=e at aa ⊢
  have hlt:lastT es (k+1)=e.tm:=by rw [lastT_succ,hee]
  rw [hlt]
  have hg:∀y∈goneL 3 0 mo e.tm (ep s.1 e),y.tm=e.tm:=λy hy=>(gone_mem hy).2
  have hb:∀y∈s.2++[e],y.tm<=e.tm:=λy hy=>by
   rcases List.mem_append.1 hy with hy|hy
   ·have:=ih.2 y hy;omega
   rw [List.mem_singleton.1 hy];exact Int.le_refl _
  refine ⟨List.pairwise_append.2 ⟨List.pairwise_append.2 ⟨ih.1,List.pairwise_singleton _ _,λx M y hy=>?_⟩,?_,λx M y hy=>?_⟩,λy hy=>?_⟩
  ·rw [List.mem_singleton.1 hy];exact hb x (List.mem_append_left _ M)
  ·refine List.Pairwise.imp_of_mem (R:=λ_ _=>True) (λM hy _=>?_) (List.pairwise_of_forall<|λ_ _=>trivial)
   rw [hg _ M,hg _ hy];exact Int.le_refl _
  ·rw [hg y hy];exact hb x M
  rcases List.mem_append.1 hy with hy|hy
  ·exact hb y hy
  rw [hg y hy];exact Int.le_refl _
section
variable {nd kd wd mo:Int}{es:List Ev}
theorem StOk.pw(h:StOk nd es):es.Pairwise λa b=>a.tm<=b.tm:=by
 rw [List.pairwise_iff_getElem]
 intro i j hi hj M
 have h1:=h.up j om i M
 have h2:=h.asc j hj
 rw [Cx es i hi] at h1
 rw [Cx es j hj] at h2
 omega
theorem HistOk.asc(h:HistOk nd kd wd mo es):(slideS kd wd mo es).2.Pairwise λa b=>a.tm<=b.tm:=by
 have M:es.take es.length=es:=List.take_length
 rcases checkW_cases h.win with ⟨rfl,rfl,rfl⟩|⟨rfl,hw,rfl⟩|⟨rfl,rfl,hm⟩
 ·rw [all_same];exact h.st.pw
 ·have:=(BehB.all (mo:=0) h.st hw.1 es.length<|Nat.le_refl _).asc
  rwa [M] at this
 have:=(slide3_asc (mo:=mo) h.st es.length<|Nat.le_refl _).1
 rwa [M] at this
end
theorem place_spec(l:List Ev)(x:Ev):∀n,n<=l.length->placeG evC l x n<=n/\(∀i:Nat,placeG evC l x n<=i->i<n->x.tm<(e_ l i).tm)/\(0<placeG evC l x n->(e_ l ((placeG evC l x n - 1:Nat):Int)).tm<=x.tm)
 |0,_=>⟨Nat.le_refl _,λi h1 M=>by omega,λh=>absurd h<|Nat.lt_irrefl 0⟩
 |n+1,hn=>by
  unfold placeG
  split
  ·rename_i h
   obtain ⟨h1,M,h3⟩:=place_spec l x n om
   refine ⟨by omega,λi hi hlt=>?_,h3⟩
   by_cases e:i=n
   ·subst e;exact evC_neg.1 h
   exact M i hi om
  rename_i h
  refine ⟨Nat.le_refl _,λi h1 M=>by omega,λ_=>?_⟩
  have:¬x.tm<(e_ l n).tm:=λhh=>h (evC_neg.2 hh)
  show (e_ l n).tm<=x.tm
  omega
theorem insert_asc{l:List Ev}(h:l.Pairwise λa b=>a.tm<=b.tm)(x:Ev):(insertG evC l x).Pairwise λa b=>a.tm<=b.tm:=by
 obtain ⟨h1,h2,h3⟩:=place_spec l x l.length (Nat.le_refl _)
 unfold insertG insG
 generalize placeG evC l x l.length=p at h1 h2 h3
 have hg:=List.pairwise_iff_getElem.1 h
 have ha:∀a∈l.take p,a.tm<=x.tm:=λa ha=>by
  obtain ⟨i,hi,rfl⟩:=List.getElem_of_mem ha
  rw [List.length_take] at hi
  rw [List.getElem_take]
  have h4:=h3 om
  rw [Cx l (p - 1) om] at h4
  by_cases e:i=p - 1
  ·subst e;exact h4
  have:=hg i (p - 1) om om om;omega
 have hb:∀b∈l.drop p,x.tm<=b.tm:=λb hb=>by
  obtain ⟨i,hi,rfl⟩:=List.getElem_of_mem hb
  rw [List.length_drop] at hi
  rw [List.getElem_drop]
  have h4:=h2 (p+i) om om
  rw [Cx l (p+i) om] at h4
  omega
 refine List.pairwise_append.2 ⟨h.sublist<|List.take_sublist _ _,List.pairwise_cons.2 ⟨hb,h.sublist<|List.drop_sublist _ _⟩,λa aa b M=>?_⟩
 rcases List.mem_cons.1 M with rfl|M
 ·exact ha a aa
 have h5:=ha a aa;have h6:=hb b M;omega
theorem isortC_acc:∀(xs acc:List Ev),acc.Pairwise (λa b=>a.tm<=b.tm)->(xs.foldl (insertG evC) acc).Pairwise λa b=>a.tm<=b.tm
 |[],acc,h=>h
 |x::xs,acc,h=>isortC_acc xs _ (insert_asc h x)
theorem isortC_asc(xs:List Ev):(isortG evC xs).Pairwise λa b=>a.tm<=b.tm:=isortC_acc xs [] List.Pairwise.nil
section
variable {nd kd wd mo T:Int}{es:List Ev}
theorem HistOk.all_asc(h:HistOk nd kd wd mo es):(allE kd wd mo es).Pairwise λa b=>a.tm<=b.tm:=by
 unfold allE
 refine List.pairwise_append.2 ⟨h.asc,isortC_asc _,λx hx y M=>?_⟩
 have M:=(isort_permG _ _).mem_iff.1 M
 unfold lateL at M
 obtain ⟨z,hz,rfl⟩:=List.mem_map.1 M
 obtain ⟨h1,h2⟩:=List.mem_filter.1 hz
 unfold lateP at h2
 have h2:=of_decide_eq_true h2
 show x.tm<=z.tm+wd
 rcases checkW_cases h.win with ⟨e1,_⟩|⟨e1,hw,e3⟩|⟨e1,_⟩
 ·omega
 ·subst e1
  have he:es.take es.length=es:=List.take_length
  have hB:=BehB.all (mo:=mo) h.st hw.1 es.length (Nat.le_refl _)
  rw [he] at hB
  rw [←h.links] at h1
  have h3:=hB.le x hx
  have h4:=hB.inv.al rfl z h1
  omega
 omega
end
end Go.Sl
namespace Go.Sl
variable {P:Program}{κ:Ctx}{N:Frm}{L:Env}{I:List Item}
end Go.Sl
namespace Go.Sl
variable {P:Program}{κ:Ctx}{N:Frm}{L:Env}{I:List Item}
theorem V.retv3{fn:Func}{t u s:Tmp}{T U S b b' b2 E E' E2 by' ai ao:Nat}{z z' z2:List Value}{v v' v2:Value}{Post:Value->List Item->Prop}(hr:fn.results = #[.cell t T,.cell u U,.cell s S])(hT:tyF P T=some (1,false,by',z))(hU:tyF P U=some (1,false,ai,z'))(hS:tyF P S=some (1,false,ao,z2))
  (hv:look L t=some (.pointer<|some ⟨b,0,none⟩)) (ak:look L u=some (.pointer<|some ⟨b',0,none⟩)) (an:look L s=some (.pointer<|some ⟨b2,0,none⟩)) (hb:e8 b [v] E∈I) (ap:e8 b' [v'] E'∈I) (aj:e8 b2 [v2] E2∈I)
  (J:List Item) (hf:Fit κ I J) (hp:Post (.tuple #[v,v',v2]) J) (h0:N.ds=[]:=by rfl):V κ N (bodyPost P fn<|RetR κ Post) .ret L I:=
 λa w ha hs=>by
  have ah:w.cell? ⟨b,0,none⟩=some v:=by rw [cell_blk (w:=w) (hs.ok _ hb).1 0];rfl
  have ad:w.cell? ⟨b',0,none⟩=some v':=by rw [cell_blk (w:=w) (hs.ok _ ap).1 0];rfl
  have M:w.cell? ⟨b2,0,none⟩=some v2:=by rw [cell_blk (w:=w) (hs.ok _ aj).1 0];rfl
  have ae:(loadVar T ⟨b,0,none⟩).run P w = .ok v w:=run_loadVar_one hT ah
  have aa:(loadVar U ⟨b',0,none⟩).run P w = .ok v' w:=run_loadVar_one hU ad
  have ab:(loadVar S ⟨b2,0,none⟩).run P w = .ok v2 w:=run_loadVar_one hS M
  refine bodyPost_ret (v:= .tuple #[v,v',v2]) ?_ (ha.defers.trans h0) ⟨_,J,rfl,hp,hf w hs⟩
  simp [results,hr,ha.get t _ hv,ha.get u _ ak,ha.get s _ an,asAddr,ae,aa,ab]
end Go.Sl
