/- A part of the proofs of statements of this seat: contracts of functions, and the plain laws that they lean on. No conditions. -/
import Derived.Test.YtnbkccjkdpolmaaGreatDoorR22
set_option linter.unusedVariables false
set_option linter.unusedSimpArgs false
set_option linter.unusedSectionVars false
open Go.Proofs.Tryz (prog)
open List (replicate)
set_option maxHeartbeats 4000000
namespace Go.Sl
open Go.Proofs
set_option maxRecDepth 4000
variable{De Nu a nd x:Int}{κ:Ctx}{I:List Item}{b nc:Nat}{na:Option Addr}{vo:Value}{es:List Pt}{B:BitVec 64}
section
variable {tri:List (List Pt)}{num ord pl:List Int}
theorem TrussE.behind(hG:TriG tri)(hE:TrussE tri num ord)(aa:∀i:Nat,i<ord.length->e_ pl (e_ ord i)=(i:Int))(h0:0<=x)(h1:x<tri.length):(((e_ tri x).filter (λp:Pt=>decide (e_ pl x<(if (e_ pl p.v)<(e_ pl p.u) then (e_ pl p.v) else (e_ pl p.u))))).length:Int)<=e_ num x:=by
 obtain ⟨i,hi,rfl⟩:=hE.pos h0 h1
 refine Int.le_trans (Int.ofNat_le.2<|filt_mono λp hp h=>?_)<|hE.later i hi
 have hr:=hG.rng _ h0 h1 p hp
 rw [decide_eq_true_eq,aa i hi] at h
 rw [decide_eq_true_eq]
 have M:∀y:Int,0<=y->y<tri.length->(i:Int)<e_ pl y->y∈List.drop (i+1) ord:=λy y0 y1 hy=>by
  obtain ⟨m,hm,rfl⟩:=hE.pos y0 y1
  rw [aa m hm] at hy
  exact mem_dropN om hm
 split at h
 ·exact ⟨M _ hr.1.1 hr.1.2.1 om,M _ hr.1.2.2.1 hr.1.2.2.2 h⟩
 exact ⟨M _ hr.1.1 hr.1.2.1 h,M _ hr.1.2.2.1 hr.1.2.2.2 om⟩
theorem TrussE.highs(M:TrussE tri num ord)(h0:0<=x)(h1:x<tri.length):e_ num x<=(((e_ tri x).filter (λp:Pt=>decide (e_ num x<=(if (e_ num p.v)<(e_ num p.u) then (e_ num p.v) else (e_ num p.u))))).length:Int):=by
 obtain ⟨i,hi,rfl⟩:=M.pos h0 h1
 refine Int.le_trans (M.high i hi)<|Int.ofNat_le.2<|filt_mono λp hp h=>?_
 rw [decide_eq_true_eq] at h ⊢
 split<;>omega
theorem TrussE.whole(M:TrussE tri num ord):WholeP ord (tri.length:Int):=⟨λv hv=>by have:=M.rng v hv;omega,M.nodup,by have:=M.olen;omega⟩
end
theorem TCmp_ok{num:List Int}(M:Sl κ I (.slice na num.length nc) num)(hb:BlkRd κ I b [.slice na num.length nc] 22)(x y:Int)(hx:0<=x/\x<num.length)(hy:0<=y/\y<num.length):eu prog κ 355 [e7 x,e7 y,.pointer (some ⟨b,0,none⟩)] I (λr J=>r=e7 (cmpI (e_ num x) (e_ num y))/\I=J):=by
 refine Ce3 Tryz.func355 C C ?_
 refine Ap<|Ga C<|Ar<|A3<|A4 mixed<|Cg I 10<|Dr 0 C (Cs ty22 C (Cp hb Ah) C)<|Dr 1 C (Af C)<|Dr 2 C (Az Aa ef C C (As M) om om)<|Dr 3 C (Bj ef C (As M) om om)<|Dr 4 C (Cs ty22 C (Cp hb Ah) C)<|Dr 5 C (Af C)<|Dr 6 C (Az Aa ef C C (As M) om om)<|Dr 7 C (Bj ef C (As M) om om)<|Ds1 8<|Sc0 C (Ad c_ C C<|Compare_ok (e_ num x)<|e_ num y) ?_
 exact Dr 9 C (A0 C)<|Dz<|Au<|Be (S1 5 C)<|Bo<|Ai C C I Ah ⟨rfl,rfl⟩
theorem cmpI_lt{b:Int}(h:cmpI a b<0):a<b:=by unfold cmpI at h;split at h<;>(try split at h)<;>omega
theorem Sorted_ok{num ord:List Int}(ho:Sl κ I vo ord)(aa:Sl κ I (.slice na num.length nc) num)(hb:BlkRd κ I b [.slice na num.length nc] 22)(hw:∀v∈ord,0<=v/\v<num.length):eu prog κ 354 [vo,.func (.func 355) #[] #[.pointer (some ⟨b,0,none⟩)]] I (λr J=>∃t:Bool,r = .bool t/\((∀i:Nat,i+1<ord.length->e_ num (e_ ord i)<=e_ num (e_ ord ((i+1:Nat):Int)))->t=true)/\I=J):=by
 refine B0 ho.le λab=>?_
 refine Ce2 Tryz.func354 C C ?_
 refine Ap<|Ga C<|Ar<|A3<|Ap<|Gm C<|Gr (Da (α:=Int) (xs:=ord) Aa C<|As ho)<|Gr (Rsu C C)<|Ga C<|Ar<|Bl<|Co (σ:=Int) (λs=>([(0,vo),(1,.func (.func 355) #[] #[.pointer (some ⟨b,0,none⟩)]),(5,e7 s)]:Env)) (λs=>I) (λs=>(s<ord.length/\ -1<=s)) (λs=>(s+1).toNat) (((ord.length:Nat):Int) - 1) om (Ab C<|Ab C<|Ab Dc Bt) (show Fit κ _ I from Aj) ?_
 rintro q hp
 have hq:=hp
 refine A3<|Ap<|Gm C<|Gr (Dh C C)<|Ar<|Av C (λc10=>?_)<|λc10=>?_
 ·refine Bs (Au<|A3<|Bl<|A3<|A4 mixed<|Cg I 12<|Dr 0 C (Af C)<|Dr 1 C (Af C)<|Dr 2 C (Af C)<|Dr 3 C (Az (α:=Int) (xs:=ord) Aa ef C C (As ho) om om)<|Dr 4 C (Bj (xs:=ord) ef C (As ho) om om)<|Dr 5 C (Af C)<|Dr 6 C (Af C)<|Dr 7 C (Rsu C C)<|Dr 8 C (Az (α:=Int) (xs:=ord) Aa ef C C (As ho) om om)<|Dr 9 C (Bj (xs:=ord) ef C (As ho) om om)<|Ds1 10<|Se C (Cu c_ C C C<|TCmp_ok (num:=num) (As aa) (Cp hb Ah) (e_ ord q) (e_ ord<|q - 1) (hw _<|Bv om om)<|hw _<|Bv om om) ?_)
  rintro _ _ ⟨_,_,⟨rfl,rfl⟩,rfl,rfl⟩
  refine ⟨Aj,?_⟩
  refine Dr 11 C (Ch C C)<|Dz<|Au<|Be (S4 24 0 1 5 C C C C)<|Av C (λM=>?_)<|λM=>?_
  ·exact Ap<|Ga C<|Ar<|Bo<|B3<|Bp<|Bp<|B3<|Bp<|Ai C C I Ah ⟨false,rfl,(λh=>by have h2:=h (q - 1).toNat om;rw [show (((q - 1).toNat:Nat):Int)=q - 1 by omega,show (((q - 1).toNat+1:Nat):Int)=q by omega] at h2;have:=cmpI_lt M;omega),rfl⟩
  exact Bs<|Ay<|Au<|Bi<|Gm C<|Gr (Rsu C C)<|Ga C<|Bm<|B7 ((q - 1)) om
 exact C4<|A8<|A8<|Bz<|Au<|Ap<|Ga C<|Ar<|Bo<|Ai C C I Ah ⟨true,rfl,(λ_=>rfl),rfl⟩
theorem TCheck_ok{ea:Option Addr}{ec:Nat}{num ord:List Int}(hl:Sl κ I (.slice ea es.length ec) es)(aa:Sl κ I (.slice na num.length nc) num)(ho:Sl κ I vo ord)(hG:GrOk nd es)(hT:TabRd κ I 0 tzCells):eu prog κ 353 [.agg #[e7 nd,.slice ea es.length ec],.slice na num.length nc,vo] I (λr J=>∃c,r=e7 c/\(TrussE (trisE nd es) num ord->c=0)/\I=J):=by
 have br:=hG.rng
 have bm:=edges_le hG
 have ax:(trisE nd es).length=es.length:=List.length_map ..
 refine B0 ho.le λbi=>?_
 refine Ce3 Tryz.func353 C C ?_
 refine Ap<|Ge1 (Ak (cs:=[_,_]) C C C) λb1=>Ge1 (Ak (cs:=[_]) C C C) λb2=>Ga C<|Ar<|A3<|Ap<|Gl2 ty56 ?_
 refine Gc0 (Ad c_ C C<|CheckGen_ok<|As hl) ?_
 refine Ga C<|Ar<|Ap<|Gm C<|Gr (C3 C C)<|Ar<|Av C (λa1=>?_)<|λa1=>?_
 ·exact absurd (checkG_ok.2 hG) a1
 refine Bs<|Au<|A3<|Fa (σ:=Bool) (λs=>([(2,vo),(3,.pointer<|some ⟨b1,0,none⟩),(4,.pointer<|some ⟨b2,0,none⟩),(35,.bool s)]:Env)) (λs=>e8 b2 [.slice na num.length nc] 22::e8 b1 [e7 nd,.slice ea es.length ec] 56::I) (λs=>(s=true->(num.length≠es.length\/¬WholeP ord (es.length:Int)))/\(s=false->num.length=es.length/\WholeP ord (es.length:Int))) ?_ ?_
 ·refine Bi (Gl ty22 ?_)
  refine Gr (Ce Aa C)<|Gf fld56_1 C<|Gl ty54 ?_
  refine Gr (Ce Cq C)<|Gr (C3 C C)<|Gm C<|A6 (d:=28) C (λbb=>?_)<|λbb=>?_
  ·exact eb<|eb<|eb<|eb<|eb<|eb<|Gr (A2 C C)<|Bm<|Cn ((true)) ⟨(λhb=>by first|(left;omega)|(right;simpa using hb)),(λhb=>by first|(exact absurd hb dc)|(exact ⟨by omega,by simpa using hb⟩))⟩
  refine e9 (Af C)<|e9 (Ac fld56_1 C)<|e9 (Ax ty54) ?_
  refine e9 (Ce Cq C)<|Dn (B5 C C C) (Ad c_ C C<|Whole_ok (n:=((es.length:Nat):Int)) (As ho) om) ?_
  rintro _ _ ⟨_,_,⟨rfl,rfl⟩,rfl,rfl⟩
  exact e9 (Runs.notd C)<|Gr (Al C C)<|Bm<|Cn ((decide<|¬(WholeP ord ((es.length:Nat):Int)))) ⟨(λhb=>by first|(left;omega)|(right;simpa using hb)),(λhb=>by first|(exact absurd hb dc)|(exact ⟨by omega,by simpa using hb⟩))⟩
 rintro bq hp
 obtain ⟨bf,a8⟩:(bq=true->(num.length≠es.length\/¬WholeP ord (es.length:Int)))/\(bq=false->num.length=es.length/\WholeP ord (es.length:Int)):=hp
 refine D6 C (λaw=>?_)<|λaw=>?_
 ·exact Ap<|Ga C<|Ar<|Bo<|Bp<|Ai C C I Ah ⟨4,rfl,(λhE=>by have h1:=hE.nlen;have h2:=hE.whole;rw [ax] at h1 h2;rcases bf aw with h|h;(· omega);(· exact absurd h2 h)),rfl⟩
 refine Bs<|Au<|Ap<|Gm C ?_
 obtain ⟨bj,ao⟩:=a8 aw
 have bo:=ao.2.2
 refine Gr (Da (α:=Int) (xs:=ord) Aa C<|As ho)<|Ge2 (Cj (α:=Int) (n:=ord.length) Aa ef C C C om om dc C) λai aj=>?_
 refine Ga C<|Ar<|A3<|Ap<|Gm C<|Gr (Da (α:=Int) (xs:=ord) Aa C<|As ho)<|Gm C<|Ar<|Bl<|Co (σ:=Nat×(List Int)) (λs=>([(2,vo),(3,.pointer<|some ⟨b1,0,none⟩),(4,.pointer<|some ⟨b2,0,none⟩),(8,.slice ai (replicate ord.length (default:Int)).length aj),(39,vo),(40,e7 ((ord.length:Nat):Int)),(41,e7 ((s.1:Nat):Int))]:Env)) (λs=>vc 3 (.slice ai (replicate ord.length (default:Int)).length aj) (s.2)::e8 b2 [.slice na num.length nc] 22::e8 b1 [e7 nd,.slice ea es.length ec] 56::I) (λs=>(s.1<=ord.length)/\(s.2.length=ord.length)/\(∀i:Nat,i<s.1->e_ s.2 (e_ ord i)=(i:Int))) (λs=>ord.length - s.1) (0,replicate ord.length 0) ⟨om,List.length_replicate,(λi h=>by omega)⟩ (Ab C<|Ab C<|Ab C<|Ab C<|Ab C<|Ab C<|Ab Dc Bt) Bf ?_
 rintro ⟨k,pl⟩ hp
 dsimp only at hp ⊢
 obtain ⟨hk,ay,az⟩:=hp
 have bn:k<ord.length->0<=e_ ord k/\e_ ord k<ord.length:=λh=>by have:=ao.1 _ (Bv (xs:=ord) (i:=(k:Int)) om om);have:=ao.2.2;omega
 refine Ap<|Gr (Ch C C)<|Ar<|A3<|Av C (λa4=>?_)<|λa4=>?_
 ·refine Bs (Au<|A3<|Bl<|Ap<|Gm C<|Gr (Az (α:=Int) (xs:=ord) Aa ef C C (As ho) om olr)<|Gr (Bj (xs:=ord) ef C (As ho) om olr)<|Ga C<|Ga C<|Ar<|Bi<|Gm C<|Gm C<|Gm C<|Gr (Az (α:=Int) (xs:=pl) Aa ef C C A7 om olr)<|Ge0 (Cm (α:=Int) (xs:=pl) (e:=3) (new:=(k:Int)) ef C C C om olr am) ?_)
  exact Bm<|Ay<|Au<|Be (S7 2 3 4 8 39 40 41 C C C C C C C)<|Bi<|Gr (Rad C C)<|Gm C<|Bm<|B7 ((k+1),(List.set pl (e_ ord k).toNat ((k:Int))))<|by dsimp only;exact ⟨om,(by rw [List.length_set];exact ay),(λi h=>by have bc:=ao.1 _ (Bv (xs:=ord) (i:=(i:Int)) om om);rw [C2 _ _ _ _ om bc.1 om];by_cases e:i=k;(· subst e;rw [if_pos rfl]);(· rw [if_neg (λh2=>e (nodup_at ao.2.1 om om h2).symm)];exact az i om))⟩
 refine C4<|A8<|A8<|Bz<|Au<|A3<|Ap<|Gl2 ty56 ?_
 have aq:∀i:Nat,i<ord.length->e_ pl (e_ ord i)=(i:Int):=λi hi=>az i om
 refine G.e (Ad c_ C C<|Triangles_ok (nd:=nd) (As hl) hG om<|A5 hT Ah) ?_
 rintro _ _ ⟨_,_,⟨ar,ap,M,rfl,au,rfl⟩,rfl,rfl⟩
 have bk:M.length=(trisE nd es).length:=by rw [←au,List.length_map]
 refine G.fit (J:=vc 205 (.slice ar M.length ap) (M)::vc 3 (.slice ai (replicate ord.length (default:Int)).length aj) (pl)::e8 b2 [.slice na num.length nc] 22::e8 b1 [e7 nd,.slice ea es.length ec] 56::(rgI M++I)) (Ft<|List.Perm.cons _<|perm_fr (A:=rgI M) (L:=[vc 3 (.slice ai (replicate ord.length (default:Int)).length aj) pl,e8 b2 [.slice na num.length nc] 22,e8 b1 [e7 nd,.slice ea es.length ec] 56]) (T:=I)) ?_
 refine Gr (Ce Fb C)<|Gm C<|Ar<|Bl<|Co (σ:=Nat) (λs=>([(2,vo),(4,.pointer<|some ⟨b2,0,none⟩),(8,.slice ai (replicate ord.length (default:Int)).length aj),(52,.slice ar M.length ap),(53,e7 ((M.length:Nat):Int)),(54,e7 ((s:Nat):Int))]:Env)) (λs=>vc 205 (.slice ar M.length ap) (M)::vc 3 (.slice ai (replicate ord.length (default:Int)).length aj) (pl)::e8 b2 [.slice na num.length nc] 22::e8 b1 [e7 nd,.slice ea es.length ec] 56::(rgI M++I)) (λs=>(s<=M.length)) (λs=>M.length - s) 0 (show ((0:Nat)<=M.length) from om) (Ab C<|Ab C<|Ab C<|Ab C<|Ab C<|Ab Dc Bt) Aj ?_
 rintro k hp
 have hk:=hp
 have an:k<M.length->(e_ M k).xs=e_ (trisE nd es) k:=λh=>rows_atG au om om
 have a6:k<M.length->∀p∈(e_ M ((k:Nat):Int)).xs,(0<=p.u/\p.u<es.length)/\(0<=p.v/\p.v<es.length):=λh p hp=>by rw [an h] at hp;have:=((triG hG).rng _ om om p hp).1;omega
 have a5:k<M.length->(e_ M k).xs.length<=64:=λh=>by rw [an h];have:=(tris_ok hG).len _ (Bv (xs:=(trisE nd es)) (i:=(k:Int)) om om);omega
 refine Ap<|Gr (Ch C C)<|Ar<|A3<|Av C (λa7=>?_)<|λa7=>?_
 ·refine Bs (Au<|A3<|Bl<|Ap<|Gm C<|Gr (Az (α:=(RowG Pt)) (xs:=M) Fb ty205 C C A7 om olr)<|Gr (Di (α:=(RowG Pt)) (xs:=M) (u:= .slice (e_ M k).a (e_ M k).xs.length (e_ M k).c) ty205 C A7 om olr C) ?_)
  have bg:=an om
  refine Ga C<|Ga C<|Ar<|Ap<|Ga C<|Ga C<|Ar<|Be (S10 14 13 12 11 2 4 8 52 53 54 C C C C C C C C C C)<|A3<|Ap<|Gm C<|Gr (Ce C6 C)<|Gm C<|Ar<|Bl<|Co (σ:=Nat×Int×Int) (λs=>([(2,vo),(4,.pointer<|some ⟨b2,0,none⟩),(8,.slice ai (replicate ord.length (default:Int)).length aj),(11,e7<|(k:Int)),(13,e7<|s.2.1),(14,e7<|s.2.2),(52,.slice ar M.length ap),(53,e7 ((M.length:Nat):Int)),(54,e7<|(k:Int)),(59,.slice (e_ M k).a (e_ M k).xs.length (e_ M k).c),(60,e7<|(((e_ M k).xs.length:Nat):Int)),(61,e7 ((s.1:Nat):Int))]:Env)) (λs=>vc 205 (.slice ar M.length ap) (M)::vc 3 (.slice ai (replicate ord.length (default:Int)).length aj) (pl)::e8 b2 [.slice na num.length nc] 22::e8 b1 [e7 nd,.slice ea es.length ec] 56::(rgI M++I)) (λs=>(s.1<=(e_ M k).xs.length)/\(s.2.1=((((e_ M k).xs.take s.1).filter (λp:Pt=>decide<|e_ pl k<(if (e_ pl p.v)<(e_ pl p.u) then (e_ pl p.v) else (e_ pl p.u)))).length:Int))/\(s.2.2=((((e_ M k).xs.take s.1).filter (λp:Pt=>decide<|e_ num k<=(if (e_ num p.v)<(e_ num p.u) then (e_ num p.v) else (e_ num p.u)))).length:Int))) (λs=>(e_ M k).xs.length - s.1) (0,0,0) ⟨om,rfl,rfl⟩ (Ab C<|Ab C<|Ab C<|Ab C<|Ab Dc<|Ab Dc<|Ab C<|Ab C<|Ab C<|Ab C<|Ab C<|Ab Dc Bt) Aj ?_
  rintro ⟨q,n1,n2⟩ hp
  dsimp only at hp ⊢
  obtain ⟨hq,ad,ab⟩:=hp
  have bh:=a5 om
  have bt:q<(e_ M k).xs.length->(0<=(e_ (e_ M k).xs (q:Int)).u/\(e_ (e_ M k).xs (q:Int)).u<es.length)/\(0<=(e_ (e_ M k).xs (q:Int)).v/\(e_ (e_ M k).xs (q:Int)).v<es.length):=λh=>a6 om _ (Bv om om)
  have be:=List.length_filter_le (λp:Pt=>decide<|e_ pl k<(if (e_ pl p.v)<(e_ pl p.u) then (e_ pl p.v) else (e_ pl p.u))) ((e_ M k).xs.take q)
  have ba:=List.length_filter_le (λp:Pt=>decide<|e_ num k<=(if (e_ num p.v)<(e_ num p.u) then (e_ num p.v) else (e_ num p.u))) ((e_ M k).xs.take q)
  rw [List.length_take] at be ba
  refine Ap<|Gr (Ch C C)<|Ar<|A3<|Av C (λa9=>?_)<|λa9=>?_
  ·refine Bs (Au<|A3<|Bl<|Ap<|Gr (Az (α:=Pt) (xs:=(e_ M k).xs) C6 ty207 C C (Fe<|by repeat (first|exact rgI_mem (rs:=M) (i:=(k:Int)) om om|apply List.mem_cons_of_mem)) om olr)<|Gr (Dp (α:=Pt) (xs:=(e_ M k).xs) ty207 C (Fe<|by repeat (first|exact rgI_mem (rs:=M) (i:=(k:Int)) om om|apply List.mem_cons_of_mem)) om olr)<|Ge1 (Am ty207 C) λb8=>Ge0 (Ci ty207) ?_)
   refine Ar<|Be (S13 16 2 4 8 11 13 14 52 53 54 59 60 61 C C C C C C C C C C C C C)<|A3<|A3<|A4 mixed<|C1 16<|Dr 0 C (Af C)<|Dr 1 C (Cb Bu ty2 C C om om)<|Dr 2 C (Ax ef) ?_
   refine Dr 3 C (Az (α:=Int) (xs:=pl) Aa ef C C A7 om olr)<|Dr 4 C (Bj (xs:=pl) ef C A7 om olr)<|Dr 5 C (Af C)<|Dr 6 C (Cb Bu ty2 C C om om)<|Dr 7 C (Ax ef) ?_
   refine Dr 8 C (Az (α:=Int) (xs:=pl) Aa ef C C A7 om olr)<|Dr 9 C (Bj (xs:=pl) ef C A7 om olr)<|Dr 10 C (Runs.min C C)<|Dr 11 C (Af C)<|Dr 12 C (Af C)<|Dr 13 C (Az (α:=Int) (xs:=pl) Aa ef C C A7 om olr)<|Dr 14 C (Bj (xs:=pl) ef C A7 om olr)<|Dr 15 C (Dh C C)<|Dz<|Au<|Be (S14 80 16 2 4 8 11 13 14 52 53 54 59 60 61 C C C C C C C C C C C C C C)<|Av C (λah=>?_)<|λah=>?_
   ·refine Bi (Gm C<|Gr (Rad C C)<|Ga C<|Ar<|Be (S13 13 16 2 4 8 11 14 52 53 54 59 60 61 C C C C C C C C C C C C C)<|A3<|A4 mixed<|C1 16<|Dr 0 C (Ax ty22) ?_)
    refine Dr 1 C (Cb Bu ty2 C C om om)<|Dr 2 C (Ax ef) ?_
    refine Dr 3 C (Az (α:=Int) (xs:=num) Aa ef C C (As aa) om olr)<|Dr 4 C (Bj (xs:=num) ef C (As aa) om olr)<|Dr 5 C (Ax ty22) ?_
    refine Dr 6 C (Cb Bu ty2 C C om om)<|Dr 7 C (Ax ef) ?_
    refine Dr 8 C (Az (α:=Int) (xs:=num) Aa ef C C (As aa) om olr)<|Dr 9 C (Bj (xs:=num) ef C (As aa) om olr)<|Dr 10 C (Runs.min C C)<|Dr 11 C (Ax ty22) ?_
    refine Dr 12 C (Af C)<|Dr 13 C (Az (α:=Int) (xs:=num) Aa ef C C (As aa) om olr)<|Dr 14 C (Bj (xs:=num) ef C (As aa) om olr)<|Dr 15 C (Ff C C)<|Dz<|Au<|Be (S13 98 13 2 4 8 11 14 52 53 54 59 60 61 C C C C C C C C C C C C C)<|Av C (λae=>?_)<|λae=>?_
    ·exact Bi<|Gm C<|Gr (Rad C C)<|Ga C<|Bm<|Ay<|Au<|Be (S12 14 13 2 4 8 11 52 53 54 59 60 61 C C C C C C C C C C C C)<|Bi<|Gr (Rad C C)<|Gm C<|Bm<|B7 ((q+1),(n1+1),(n2+1))<|by dsimp only;exact ⟨om,(by first|(rw [ftP_yes (λp:Pt=>decide<|e_ pl k<(if (e_ pl p.v)<(e_ pl p.u) then (e_ pl p.v) else (e_ pl p.u))) om (decide_eq_true ah),ad])|(rw [ftP_no (λp:Pt=>decide<|e_ pl k<(if (e_ pl p.v)<(e_ pl p.u) then (e_ pl p.v) else (e_ pl p.u))) om (decide_eq_false ah),ad])),(by first|(rw [ftP_yes (λp:Pt=>decide<|e_ num k<=(if (e_ num p.v)<(e_ num p.u) then (e_ num p.v) else (e_ num p.u))) om (decide_eq_true ae),ab])|(rw [ftP_no (λp:Pt=>decide<|e_ num k<=(if (e_ num p.v)<(e_ num p.u) then (e_ num p.v) else (e_ num p.u))) om (decide_eq_false ae),ab]))⟩
    exact Bs<|Ay<|Au<|Bi<|Gr (Rad C C)<|Gm C<|Bm<|B7 ((q+1),(n1+1),(n2))<|by dsimp only;exact ⟨om,(by first|(rw [ftP_yes (λp:Pt=>decide<|e_ pl k<(if (e_ pl p.v)<(e_ pl p.u) then (e_ pl p.v) else (e_ pl p.u))) om (decide_eq_true ah),ad])|(rw [ftP_no (λp:Pt=>decide<|e_ pl k<(if (e_ pl p.v)<(e_ pl p.u) then (e_ pl p.v) else (e_ pl p.u))) om (decide_eq_false ah),ad])),(by first|(rw [ftP_yes (λp:Pt=>decide<|e_ num k<=(if (e_ num p.v)<(e_ num p.u) then (e_ num p.v) else (e_ num p.u))) om (decide_eq_true ae),ab])|(rw [ftP_no (λp:Pt=>decide<|e_ num k<=(if (e_ num p.v)<(e_ num p.u) then (e_ num p.v) else (e_ num p.u))) om (decide_eq_false ae),ab]))⟩
   refine Bs<|Au<|Be (S13 16 2 4 8 11 13 14 52 53 54 59 60 61 C C C C C C C C C C C C C)<|A3<|A4 mixed<|C1 16<|Dr 0 C (Ax ty22) ?_
   refine Dr 1 C (Cb Bu ty2 C C om om)<|Dr 2 C (Ax ef) ?_
   refine Dr 3 C (Az (α:=Int) (xs:=num) Aa ef C C (As aa) om olr)<|Dr 4 C (Bj (xs:=num) ef C (As aa) om olr)<|Dr 5 C (Ax ty22) ?_
   refine Dr 6 C (Cb Bu ty2 C C om om)<|Dr 7 C (Ax ef) ?_
   refine Dr 8 C (Az (α:=Int) (xs:=num) Aa ef C C (As aa) om olr)<|Dr 9 C (Bj (xs:=num) ef C (As aa) om olr)<|Dr 10 C (Runs.min C C)<|Dr 11 C (Ax ty22) ?_
   refine Dr 12 C (Af C)<|Dr 13 C (Az (α:=Int) (xs:=num) Aa ef C C (As aa) om olr)<|Dr 14 C (Bj (xs:=num) ef C (As aa) om olr)<|Dr 15 C (Ff C C)<|Dz<|Au<|Be (S13 98 2 4 8 11 13 14 52 53 54 59 60 61 C C C C C C C C C C C C C)<|Av C (λae=>?_)<|λae=>?_
   ·exact Bi<|Gm C<|Gr (Rad C C)<|Ga C<|Bm<|Ay<|Au<|Be (S12 14 2 4 8 11 13 52 53 54 59 60 61 C C C C C C C C C C C C)<|Bi<|Gr (Rad C C)<|Gm C<|Bm<|B7 ((q+1),(n1),(n2+1))<|by dsimp only;exact ⟨om,(by first|(rw [ftP_yes (λp:Pt=>decide<|e_ pl k<(if (e_ pl p.v)<(e_ pl p.u) then (e_ pl p.v) else (e_ pl p.u))) om (decide_eq_true ah),ad])|(rw [ftP_no (λp:Pt=>decide<|e_ pl k<(if (e_ pl p.v)<(e_ pl p.u) then (e_ pl p.v) else (e_ pl p.u))) om (decide_eq_false ah),ad])),(by first|(rw [ftP_yes (λp:Pt=>decide<|e_ num k<=(if (e_ num p.v)<(e_ num p.u) then (e_ num p.v) else (e_ num p.u))) om (decide_eq_true ae),ab])|(rw [ftP_no (λp:Pt=>decide<|e_ num k<=(if (e_ num p.v)<(e_ num p.u) then (e_ num p.v) else (e_ num p.u))) om (decide_eq_false ae),ab]))⟩
   exact Bs<|Ay<|Au<|Bi<|Gr (Rad C C)<|Gm C<|Bm<|B7 ((q+1),(n1),(n2))<|by dsimp only;exact ⟨om,(by first|(rw [ftP_yes (λp:Pt=>decide<|e_ pl k<(if (e_ pl p.v)<(e_ pl p.u) then (e_ pl p.v) else (e_ pl p.u))) om (decide_eq_true ah),ad])|(rw [ftP_no (λp:Pt=>decide<|e_ pl k<(if (e_ pl p.v)<(e_ pl p.u) then (e_ pl p.v) else (e_ pl p.u))) om (decide_eq_false ah),ad])),(by first|(rw [ftP_yes (λp:Pt=>decide<|e_ num k<=(if (e_ num p.v)<(e_ num p.u) then (e_ num p.v) else (e_ num p.u))) om (decide_eq_true ae),ab])|(rw [ftP_no (λp:Pt=>decide<|e_ num k<=(if (e_ num p.v)<(e_ num p.u) then (e_ num p.v) else (e_ num p.u))) om (decide_eq_false ae),ab]))⟩
  refine C4<|A8<|A8<|Bz<|Au<|Ap<|Gm C<|Gl ty22 ?_
  refine Gm C<|Gr (Az (α:=Int) (xs:=num) Aa ef C C (As aa) om olr)<|Gr (Bj (xs:=num) ef C (As aa) om olr)<|Gr (Dh C C)<|Gm C<|A6 (d:=108) C (λa0=>?_)<|λa0=>?_
  ·exact eb<|eb<|eb<|eb<|eb<|eb<|Gr (A2 C C)<|Ar<|Be (S7 115 2 4 8 52 53 54 C C C C C C C)<|W.yes C<|Ap<|Ga C<|Ar<|Bo<|B3<|Bp<|Bp<|B3<|Bp<|Ai C C I Ah ⟨12,rfl,(λhE=>by first|(have h1:=av hE.asc;simp [h1] at ak;done)|(have h1:=hE.behind (triG hG) aq (x:=(k:Int)) om om;have h2:=hE.highs (x:=(k:Int)) om om;rw [List.take_of_length_le om] at ad ab;rw [←an om] at h1 h2;omega)),rfl⟩
  refine e9 (Af C)<|e9 (Ax ty22) ?_
  refine e9 (Af C)<|e9 (Az (α:=Int) (xs:=num) Aa ef C C (As aa) om olr)<|e9 (Bj (xs:=num) ef C (As aa) om olr)<|e9 (Ch C C)<|Gr (Al C C)<|Ar<|Be (S7 115 2 4 8 52 53 54 C C C C C C C)<|Av C (λa3=>?_)<|λa3=>?_
  ·exact Ap<|Ga C<|Ar<|Bo<|B3<|Bp<|Bp<|B3<|Bp<|Ai C C I Ah ⟨12,rfl,(λhE=>by first|(have h1:=av hE.asc;simp [h1] at ak;done)|(have h1:=hE.behind (triG hG) aq (x:=(k:Int)) om om;have h2:=hE.highs (x:=(k:Int)) om om;rw [List.take_of_length_le om] at ad ab;rw [←an om] at h1 h2;omega)),rfl⟩
  exact Bs<|Ay<|Au<|Bi<|Gr (Rad C C)<|Gm C<|Bm<|B7 ((k+1)) om
 refine C4<|A8<|A8<|Bz<|Au<|A3<|Ap<|Gm C<|Gr (Eb C C)<|G.e (Ad c_ C C<|Sorted_ok (num:=num) (As ho) (As aa) (Cv mm) (λv hv=>by have:=ao.1 v hv;omega)) ?_
 rintro _ _ ⟨_,_,⟨bp,rfl,av,rfl⟩,rfl,rfl⟩
 refine Gr (Cc C)<|Ar<|D6 C (λak=>?_)<|λak=>?_
 ·exact Ap<|Ga C<|Ar<|Bo<|Bp<|Ai C C I Ah ⟨12,rfl,(λhE=>by first|(have h1:=av hE.asc;simp [h1] at ak;done)|(have h1:=hE.behind (triG hG) aq (x:=(k:Int)) om om;have h2:=hE.highs (x:=(k:Int)) om om;rw [List.take_of_length_le om] at ad ab;rw [←an om] at h1 h2;omega)),rfl⟩
 exact Bs<|Au<|Ap<|Ga C<|Ar<|Bo<|Ai C C I Ah ⟨0,rfl,(λ_=>rfl),rfl⟩
def loadT(es:List Pt)(D:Int)(parts:List Int)(k:Nat)(v:Int):Int:=sumN k λi=>(if (e_ es i).u=v then e_ parts i else 0)+(if (e_ es i).v=v then D - e_ parts i else 0)
theorem loadT_succ(es:List Pt)(D:Int)(parts:List Int)(k:Nat)(v:Int):loadT es D parts (k+1) v=loadT es D parts k v+((if (e_ es k).u=v then e_ parts k else 0)+(if (e_ es k).v=v then D - e_ parts k else 0)):=rfl
theorem sums_next{D:Int}{parts out:List Int}{k n:Nat}(hl:out.length=n)(M:(0<=(e_ es k).u/\(e_ es k).u<n)/\0<=(e_ es k).v/\(e_ es k).v<n)(aa:(e_ es k).u≠(e_ es k).v)
  (h:∀v:Int,0<=v->v<n->e_ out v=loadT es D parts k v):∀v:Int,0<=v->v<n->e_ (List.set (List.set out (e_ es k).u.toNat (e_ out (e_ es k).u+e_ parts k)) (e_ es k).v.toNat (e_ out (e_ es k).v+(D - e_ parts k))) v=loadT es D parts (k+1) v:=λv h0 h1=>by
 rw [C2 _ _ _ _ M.2.1 h0 (by rw [List.length_set];omega),C2 _ _ _ _ M.1.1 h0 om,loadT_succ,h v h0 h1,h _ M.1.1 M.1.2,h _ M.2.1 M.2.2]
 by_cases e1:(e_ es k).v=v
 ·rw [if_pos e1,if_pos e1,if_neg om,e1];omega
 rw [if_neg e1,if_neg e1]
 by_cases e2:(e_ es k).u=v
 ·rw [if_pos e2,if_pos e2,e2];omega
 rw [if_neg e2,if_neg e2];omega

theorem cmp_np{b c d:Int}(h:a*d<=c*b):¬0<cmpF ⟨a,b⟩ ⟨c,d⟩:=by
 unfold cmpF
 simp only
 repeat (first|omega|split)
theorem bound_np{m:Int}(M:0<=m/\m<=Nu)(hD:1<=De):¬0<cmpF (mkF m De) ⟨Nu,De⟩:=by
 have h1:=mkF_mul (a:=m) (b:=De) M.1 om
 have h2:=mkF_den (a:=m) (b:=De) om
 refine cmp_np (a:=(mkF m De).num) (b:=(mkF m De).den) ?_
 rw [←h1,Int.mul_comm Nu]
 exact Int.mul_le_mul_of_nonneg_left M.2 om
theorem nat_frac{a x y:Nat}(hb:0<b)(hy:0<y)(h:a*y=x*b):a / a.gcd b=x / x.gcd y/\b / a.gcd b=y / x.gcd y:=by
 have hg:=Nat.gcd_pos_of_pos_right a hb
 have hk:=Nat.gcd_pos_of_pos_right x hy
 have c1:=Nat.coprime_div_gcd_div_gcd hg
 have c2:=Nat.coprime_div_gcd_div_gcd hk
 have M:=Nat.div_mul_cancel (Nat.gcd_dvd_left a b)
 have e2:=Nat.div_mul_cancel (Nat.gcd_dvd_right a b)
 have e3:=Nat.div_mul_cancel (Nat.gcd_dvd_left x y)
 have e4:=Nat.div_mul_cancel (Nat.gcd_dvd_right x y)
 generalize a.gcd b=g at hg c1 M e2 ⊢
 generalize x.gcd y=k at hk c2 e3 e4 ⊢
 generalize a / g=a1 at c1 M ⊢
 generalize b / g=b1 at c1 e2 ⊢
 generalize x / k=x1 at c2 e3 ⊢
 generalize y / k=y1 at c2 e4 ⊢
 subst M e2 e3 e4
 have h2:a1*y1=x1*b1:=by
  refine Nat.eq_of_mul_eq_mul_right (Nat.mul_pos hg hk) ?_
  have l:a1*y1*(g*k)=a1*g*(y1*k):=by ac_rfl
  have r:x1*b1*(g*k)=x1*k*(b1*g):=by ac_rfl
  rw [l,r];exact h
 have d1:b1 ∣ y1:=c1.symm.dvd_of_dvd_mul_left (m:=a1) ⟨x1,by rw [h2,Nat.mul_comm]⟩
 have d2:y1 ∣ b1:=c2.symm.dvd_of_dvd_mul_left (m:=x1) ⟨a1,by rw [←h2,Nat.mul_comm]⟩
 have e:=Nat.dvd_antisymm d1 d2
 subst e
 have aa:0<b1:=Nat.pos_of_mul_pos_right hb
 exact ⟨Nat.eq_of_mul_eq_mul_right aa h2,rfl⟩
theorem mkF_eq{b y:Int}(M:0<=a)(hb:0<b)(hx:0<=x)(hy:0<y)(h:a*y=x*b):mkF a b=mkF x y:=by
 obtain ⟨a,rfl⟩:=Int.eq_ofNat_of_zero_le M
 obtain ⟨b,rfl⟩:=Int.eq_ofNat_of_zero_le (Int.le_of_lt hb)
 obtain ⟨x,rfl⟩:=Int.eq_ofNat_of_zero_le hx
 obtain ⟨y,rfl⟩:=Int.eq_ofNat_of_zero_le (Int.le_of_lt hy)
 obtain ⟨h1,h2⟩:=nat_frac (a:=a) (b:=b) (x:=x) (y:=y) om om (by exact_mod_cast h)
 unfold mkF gcdI
 simp only [Int.toNat_natCast]
 rw [←Int.natCast_ediv,←Int.natCast_ediv,←Int.natCast_ediv,←Int.natCast_ediv,h1,h2]
theorem inside_bits(hG:GrOk nd es)(B:BitVec 64):((insideN nd es (eo B):Nat):Int)=insE B es:=by
 rw [←indG_len,indG_ref _<|by rw [checkG_ok.2 hG];decide]
 unfold insE
 congr 2
 refine List.filter_congr λe he=>?_
 have h:=hG.edge e he
 rw [Bool.eq_iff_iff,decide_eq_true_eq,Bool.and_eq_true,Ec,Ec]
 constructor
 ·rintro ⟨M,h2⟩;exact ⟨M.2,h2.2⟩
 rintro ⟨M,h2⟩;exact ⟨⟨by omega,M⟩,by omega,h2⟩
theorem meet_bits(hn:nd<=64)(h:subN nd B):(meetL (eo B) (rangeI nd)).length=(eo B).length:=by
 unfold meetL
 rw [List.filter_eq_self.2 λx hx=>?_,ofL_nodup_len<|Dq B]
 have M:=(mem_ofL _ _).1 hx
 have h2:=(mem_listB.1 M).1
 have h3:=h x M
 simp only [decide_eq_true_eq]
 rw [mem_rangeI];omega
theorem best_dens(hG:GrOk nd es)(h:BestR nd es Nu De B):densG nd es (eo B)=⟨Nu,De⟩/\ValidP (eo B) nd/\(0<nd->eo B≠[])/\(1<=De/\De<=64)/\(0<=Nu/\Nu<=2016):=by
 have hz:=checkG_ok.2 hG
 by_cases hn:nd=0
 ·obtain ⟨h1,h2,h3⟩:=h.none hz hn
  subst h1 h2 h3
  rw [Df]
  refine ⟨?_,λj hj=>absurd hj<|Nat.not_lt_zero _,λh=>by omega,by omega,by omega⟩
  unfold densG
  rw [if_neg (by rw [hz];decide),if_pos<|by simp [meetL,ofL]]
 have M:=h.some hz hn
 have hr:=hG.rng
 obtain ⟨x,y,hx,hy,e⟩:=M.red
 have aa:eo B≠[]:=λe=>by
  have h2:=cntB_pos M.dens.ne
  unfold cntB at h2
  rw [e] at h2;simp at h2
 refine ⟨?_,ValidP_iff.2 ⟨λv hv=>⟨(mem_listB.1 hv).1,M.dens.sub v hv⟩,listB_asc B⟩,λ_=>aa,M.den,M.num⟩
 have hc:=cntB_pos M.dens.ne
 have ab:=insE_bd B es
 unfold densG
 rw [if_neg (by rw [hz];decide),meet_bits hr.2 M.dens.sub,if_neg<|λe=>aa<|List.length_eq_zero_iff.1 e,inside_bits hG,e]
 refine mkF_eq ab.1 (show 0<cntB B by omega) hx.1 om ?_
 have h1:=M.dens.eq
 have h2:=mkF_mul (a:=x) (b:=y) hx.1 om
 rw [←e] at h2
 simp only at h2
 have hD:=M.den
 have h3:De*(insE B es*y)=De*(x*cntB B):=by
  rw [←Int.mul_assoc,h1,←Int.mul_assoc,h2,Int.mul_assoc,Int.mul_assoc,Int.mul_comm<|cntB B]
 exact Int.eq_of_mul_eq_mul_left om h3
end Go.Sl
namespace Go.Sl
open Go.Proofs
set_option maxRecDepth 4000
variable{es:List Pt}{E dd dn nd:Int}{M S parts:List Int}{b ec n pc:Nat}{ea pa:Option Addr}{v:Value}
variable {κ:Ctx}{I:List Item}
attribute [local irreducible] W G V D A Runs Eff
def FitsP(es:List Pt)(E:Int)(parts:List Int):Prop:=(1<=E/\E<=1048576)/\parts.length=es.length/\¬∃t∈parts,t<0\/E<t
instance (es:List Pt) (E:Int) (parts:List Int):Decidable (FitsP es E parts):=inferInstanceAs (Decidable (_/\_))
theorem FitsP.at(h:FitsP es E parts)(i:Nat)(hi:i<parts.length):0<=e_ parts i/\e_ parts i<=E:=by
 have:=λM=>h.2.2 ⟨_,Bv (i:=(i:Int)) om om,M⟩
 by_cases h3:e_ parts i<0\/E<e_ parts i
 ·exact absurd h3 this
 omega
theorem loadT_bdM{D:Int}(h:∀i:Nat,i<es.length->0<=e_ parts i/\e_ parts i<=D)(M:D<=1000)(v:Int):∀k:Nat,k<=es.length->0<=loadT es D parts k v/\loadT es D parts k v<=2000*(k:Int)
 |0,_=>by simp [loadT,sumN]
 |k+1,hk=>by
  have ih:=loadT_bdM h M v k om
  have hp:=h k om
  rw [loadT_succ]
  split<;>split<;>omega
def AccD(nd:Int)(es:List Pt)(S:List Int)(dn dd E:Int)(parts:List Int):Prop:=∃B,BestR nd es dn dd B/\SplitB nd es dn dd E parts/\S=eo B
theorem AccD.ok(hG:GrOk nd es)(h:AccD nd es S dn dd E parts):(densG nd es S=⟨dn,dd⟩/\ValidP S nd/\(0<nd->0<S.length))/\FitsP es E parts/\E=dd/\SplitP nd dn dd es parts/\(1<=dd/\dd<=64)/\0<=dn:=by
 obtain ⟨B,hB,hS,rfl⟩:=h
 obtain ⟨rfl,M⟩:=hS (checkG_ok.2 hG)
 obtain ⟨h1,h2,h3,h4,h5⟩:=best_dens hG hB
 refine ⟨⟨h1,h2,λh=>List.length_pos_iff.2<|h3 h⟩,⟨by omega,M.len,?_⟩,rfl,M,h4,h5.1⟩
 rintro ⟨t,ht,hb⟩
 obtain ⟨i,hi,rfl⟩:=E6 ht
 have:=M.rng i (by have:=M.len;omega)
 omega
theorem Fits1_ok(M:BlkRd κ I b [e7 E,.slice pa n pc] 40)(x:Int):eu prog κ 361 [e7 x,.pointer (some ⟨b,0,none⟩)] I (λr J=>r = .bool (decide (x<0\/E<x))/\I=J):=by
 refine Ce2 Tryz.func361 C C<|Z ?_
 refine A6 (d:=6) C (λg6=>Z ?_)<|λg6=>Z ?_
 ·exact Ai C C I Ah ⟨congrArg Value.bool<|by first|exact (decide_eq_true<|.inl asm).symm|exact decide_eq_decide.2 ⟨λh=> .inr h,λh=>h.resolve_left asm⟩,rfl⟩
 refine e9 (Cs ef C (Cp M Ah) C)<|Z ?_
 exact Ai C C I Ah ⟨congrArg Value.bool<|by first|exact (decide_eq_true<|.inl asm).symm|exact decide_eq_decide.2 ⟨λh=> .inr h,λh=>h.resolve_left asm⟩,rfl⟩
theorem IndexFF_ok(hl:Sl κ I v M)(hb:BlkRd κ I b [e7 E,.slice pa n pc] 40):eu prog κ 364 [v,.func (.func 361) #[] #[.pointer (some ⟨b,0,none⟩)]] I (λr J=>∃y:Int,r=e7 y/\(0<=y↔∃t∈M,t<0\/E<t)/\I=J):=by
 refine B0 hl.le λab=>?_
 refine Ce2 Tryz.func364 C C<|Z ?_
 refine Ed (σ:=Nat) (λs=>[(8,e7 ((s:Nat):Int))]) (λ_=>[]) (λs=>(s<=M.length)/\(∀j,j<s->¬(e_ M j<0\/E<e_ M j))) (λs=>M.length - s) 0 ⟨om,all_zero⟩ ?_
 rintro k hp
 obtain ⟨hk,hn⟩:=hp
 refine Z ?_
 refine Av C (λc9=>Z ?_)<|λc9=>Z ?_
 ·refine G.e (Cu c_ C C C<|Fits1_ok (Cp hb Ah)<|e_ M k) ?_
  rintro _ _ ⟨_,_,⟨rfl,rfl⟩,rfl,rfl⟩
  refine Ar<|Av C (λaa=>Z ?_)<|λaa=>Z ?_
  ·exact Ai C C I Ah ⟨_,rfl,⟨λ_=>⟨_,Bv om om,aa⟩,λ_=>by omega⟩,rfl⟩
  exact B7 ((k+1)) ⟨om,(all_succ hn aa)⟩
 exact Ai C C I Ah ⟨_,rfl,⟨λh=>absurd h dc,λ⟨t,ht,h2⟩=>by obtain ⟨q,hq,e⟩:=mem_atN ht;rw [e] at h2;exact absurd h2<|hn q om⟩,rfl⟩
theorem ContainsFF_ok(hl:Sl κ I v M)(hb:BlkRd κ I b [e7 E,.slice pa n pc] 40):eu prog κ 360 [v,.func (.func 361) #[] #[.pointer (some ⟨b,0,none⟩)]] I (λr J=>r = .bool (decide (∃t∈M,t<0\/E<t))/\I=J):=by
 refine Ce2 Tryz.func360 C C<|Z ?_
 refine G.e (Ad c_ C C<|IndexFF_ok (As hl)<|Cp hb Ah) ?_
 rintro _ _ ⟨_,_,⟨y1,rfl,aa,rfl⟩,rfl,rfl⟩
 refine Z ?_
 exact Ai C C I Ah ⟨by rw [decide_eq_decide.2 asm],rfl⟩
theorem Fits_ok(hl:Sl κ I (.slice ea es.length ec) es)(hs:Sl κ I (.slice pa parts.length pc) parts)  :
    eu prog κ 358 [.agg #[e7 nd,.slice ea es.length ec],.agg #[e7 E,.slice pa parts.length pc]] I (λr J=>r = .bool (decide<|FitsP es E parts)/\I=J):=by
 refine Ce2 Tryz.func358 C C ?_
 refine Ap<|Ge1 (Ak (cs:=[_,_]) C C C) λb1=>Ge1 (Ak (cs:=[_,_]) C C C) λb2=>Z ?_
 refine A6 (d:=8) C (λg8=>Z ?_)<|λg8=>Z ?_
 ·refine A6 (d:=13) C (λaa=>Z ?_) (λaa=>Z ?_)
  ·refine A6 (d:=22) C (λM=>Z ?_) (λM=>Z ?_)
   ·refine e9 (Eb C C) (Dn (B5 C C C) (Ad c_ C C<|ContainsFF_ok (As hs)<|Cv mm) ?_)
    rintro _ _ ⟨_,_,⟨rfl,rfl⟩,rfl,rfl⟩
    refine Z ?_
    exact Ai C C I Ah ⟨congrArg Value.bool<|by unfold FitsP;first|exact (decide_eq_false<|λh=>absurd h.1.1 asm).symm|exact (decide_eq_false<|λh=>absurd h.1.2 asm).symm|exact (decide_eq_false (λh=>by have:=h.2.1;omega)).symm|exact decide_eq_decide.2 ⟨λh=>⟨⟨by assumption,by assumption⟩,by omega,h⟩,λh=>h.2.2⟩,rfl⟩
   exact Ai C C I Ah ⟨congrArg Value.bool<|by unfold FitsP;first|exact (decide_eq_false<|λh=>absurd h.1.1 asm).symm|exact (decide_eq_false<|λh=>absurd h.1.2 asm).symm|exact (decide_eq_false (λh=>by have:=h.2.1;omega)).symm|exact decide_eq_decide.2 ⟨λh=>⟨⟨by assumption,by assumption⟩,by omega,h⟩,λh=>h.2.2⟩,rfl⟩
  exact Ai C C I Ah ⟨congrArg Value.bool<|by unfold FitsP;first|exact (decide_eq_false<|λh=>absurd h.1.1 asm).symm|exact (decide_eq_false<|λh=>absurd h.1.2 asm).symm|exact (decide_eq_false (λh=>by have:=h.2.1;omega)).symm|exact decide_eq_decide.2 ⟨λh=>⟨⟨by assumption,by assumption⟩,by omega,h⟩,λh=>h.2.2⟩,rfl⟩
 exact Ai C C I Ah ⟨congrArg Value.bool<|by unfold FitsP;first|exact (decide_eq_false<|λh=>absurd h.1.1 asm).symm|exact (decide_eq_false<|λh=>absurd h.1.2 asm).symm|exact (decide_eq_false (λh=>by have:=h.2.1;omega)).symm|exact decide_eq_decide.2 ⟨λh=>⟨⟨by assumption,by assumption⟩,by omega,h⟩,λh=>h.2.2⟩,rfl⟩
theorem loads_ok(hl:Sl κ I (.slice ea es.length ec) es)(hs:Sl κ I (.slice pa parts.length pc) parts)(hG:GrOk nd es)(hF:FitsP es E parts)(hE:E<=1000):eu prog κ 365 [.agg #[e7 nd,.slice ea es.length ec],.agg #[e7 E,.slice pa parts.length pc]] I (λr J=>∃a c out,r = .slice a (out:List Int).length c/\((out.length:Int)=nd/\∀v:Int,0<=v->v<nd->e_ out v=loadS es E parts v)/\J=vc 3 (.slice a out.length c) out::I):=by
 have an:=hG.rng
 have hm:=edges_le hG
 have ar:=hF.2.1
 refine Ce2 Tryz.func365 C C ?_
 refine Ap<|Ge1 (Ak (cs:=[_,_]) C C C) λb1=>Ge1 (Ak (cs:=[_,_]) C C C) λb2=>Z ?_
 refine Ge2 (Cj (α:=Int) (n:=nd.toNat) Aa ef C C C om om dc C) λad ae=>Z ?_
 refine Ed (σ:=Nat×(List Int)) (λs=>[(14,e7 ((s.1:Nat):Int))]) (λs=>[vc 3 (.slice ad (replicate nd.toNat (default:Int)).length ae) (s.2)]) (λs=>(s.1<=es.length)/\(s.2.length=nd.toNat)/\(∀v:Int,0<=v->v<(nd.toNat:Int)->e_ s.2 v=loadT es E parts s.1 v)) (λs=>es.length - s.1) (0,replicate nd.toNat (default:Int)) ⟨om,(by rw [List.length_replicate]),(λv h0 h1=>by rw [Fw _ _ _ h0 om];rfl)⟩ ?_
 rintro ⟨k,out⟩ hp
 dsimp only at hp ⊢
 obtain ⟨hk,ab,M⟩:=hp
 have ah:=λh:k<es.length=>hG.edge (e_ es ((k:Nat):Int)) (Bv om om)
 have ak:=λh:k<es.length=>hF.at k om
 refine Z ?_
 refine Av C (λai=>Z ?_)<|λai=>Z ?_
 ·have ap:=ah om
  have ao:=ak om
  have au:=M (e_ es k).u om om
  have aq:=M (e_ es k).v om om
  have aw:=loadT_bdM (es:=es) (parts:=parts) (λi hi=>hF.at i om) hE (e_ es k).u k om
  have av:=loadT_bdM (es:=es) (parts:=parts) (λi hi=>hF.at i om) hE (e_ es k).v k om
  refine Ge1 (Am ty95 C) λb5=>Ga C<|Ge0 (Ci ty95) ?_
  refine Ar<|A3<|A4 mixed<|C1 12<|Z ?_
  refine C7 kr ?_
  refine Ae 12 C (Cm (α:=Int) (xs:=out) (e:=3) (new:=(e_ out<|(e_ es k).u)+(e_ parts k)) ef C C C om oo am) ?_
  rintro _ _ ⟨rfl,rfl⟩
  refine C9 kr<|Z ?_
  refine A4 mixed<|C1 15<|Z ?_
  rw [C2 out _ _ _ om om om,if_neg (show ¬(e_ es k).u=(e_ es k).v by omega)]
  refine Z ?_
  refine C7 kr ?_
  refine Ae 15 C (Cm (α:=Int) (xs:=List.set out ((e_ es k).u).toNat ((e_ out<|(e_ es k).u)+(e_ parts k))) (e:=3) (new:=(e_ out (e_ es k).v)+(E - (e_ parts k))) ef C C C om oo am) ?_
  rintro _ _ ⟨rfl,rfl⟩
  refine C9 kr<|Z ?_
  exact B7 ((k+1),(List.set (List.set out ((e_ es k).u).toNat ((e_ out<|(e_ es k).u)+(e_ parts k))) ((e_ es k).v).toNat ((e_ out (e_ es k).v)+(E - (e_ parts k)))))<|by dsimp only;exact ⟨om,(by rw [List.length_set,List.length_set];exact ab),(sums_next ab om om M)⟩
 have aa:(replicate nd.toNat (default:Int)).length=out.length:=by rw [List.length_replicate,ab]
 have aj:k=es.length:=by omega
 subst aj
 exact Ai C C (vc 3 (.slice ad out.length ae) out::I) (by rw [←aa];exact Bf) ⟨ad,ae,out,by rw [←aa],⟨by omega,λv h0 h1=>M v h0 om⟩,rfl⟩
theorem Loads_ok(hl:Sl κ I (.slice ea es.length ec) es)(hs:Sl κ I (.slice pa parts.length pc) parts)(hG:GrOk nd es)(hF:FitsP es E parts)(hE:E<=1000):eu prog κ 362 [.agg #[e7 nd,.slice ea es.length ec],.agg #[e7 E,.slice pa parts.length pc]] I (λr J=>∃a c out,r = .tuple #[.slice a (out:List Int).length c,e7 0]/\((out.length:Int)=nd/\∀v:Int,0<=v->v<nd->e_ out v=loadS es E parts v)/\J=vc 3 (.slice a out.length c) out::I):=by
 refine Ce2 Tryz.func362 C C ?_
 refine Ap<|Ge1 (Ak (cs:=[_,_]) C C C) λb1=>Ge1 (Ak (cs:=[_,_]) C C C) λb2=>Z ?_
 refine Gc0 (Ad c_ C C<|CheckGen_ok<|As hl)<|Z ?_
 refine Av C (λc10=>?_)<|λc10=>Z ?_
 ·exact absurd (checkG_ok.2 hG) c10
 refine Gc0 (Ad c_ C C<|Fits_ok (nd:=nd) (E:=E) (As hl)<|As hs)<|Z ?_
 refine Av C (λab=>?_)<|λab=>Z ?_
 ·exact absurd hF ab
 refine G.e (Ad c_ C C<|loads_ok (nd:=nd) (E:=E) (As hl) (As hs) hG hF hE) ?_
 rintro _ _ ⟨_,_,⟨ae,ad,lo,rfl,⟨aa,M⟩,rfl⟩,rfl,rfl⟩
 refine Z ?_
 exact Cw C C C (vc 3 (.slice ae lo.length ad) lo::I) Bf ⟨ae,ad,lo,rfl,⟨aa,M⟩,rfl⟩
theorem MaxI_ok{xs:List Int}(hl:Sl κ I v xs)(h0:0<xs.length):eu prog κ 363 [v] I (λr J=>∃m:Int,r=e7 m/\(m∈xs/\∀x∈xs,x<=m)/\I=J):=by
 refine B0 hl.le λad=>?_
 refine Ce1 Tryz.func363 C C<|Z ?_
 refine Av C (λc7=>?_)<|λc7=>Z ?_
 ·exfalso;omega
 refine Ed (σ:=Nat×Int) (λs=>[(3,e7<|s.2),(4,e7 ((s.1:Nat):Int))]) (λ_=>[]) (λs=>(1<=s.1/\s.1<=xs.length)/\(s.2∈xs/\∀j:Nat,j<s.1->e_ xs j<=s.2)) (λs=>xs.length - s.1) (1,e_ xs 0) ⟨om,⟨Bv om om,λj hj=>(by have e:j=0:=om;subst e;exact Int.le_refl _)⟩⟩ ?_
 rintro ⟨k,m⟩ hp
 dsimp only at hp ⊢
 obtain ⟨hk,M⟩:=hp
 refine Z ?_
 refine Av C (λaa=>Z ?_)<|λaa=>Z ?_
 ·refine B7 ((k+1),(if m<(e_ xs k) then (e_ xs k) else m))<|by dsimp only;exact ⟨om,(by have ab:=Bv (xs:=xs) (i:=(k:Int)) om om;refine ⟨by split<;>first|exact ab|exact M.1,λj hj=>?_⟩;by_cases e:j=k;(· subst e;split<;>omega);(· have:=M.2 j om;split<;>omega))⟩
 exact Ai C C I Ah ⟨m,rfl,⟨M.1,λx hx=>by obtain ⟨j,hj,rfl⟩:=E6 hx;exact M.2 j om⟩,rfl⟩
theorem max_ok{m:Int}{lo:List Int}(M:FitsP es E parts)(hE:E<=1000)(hm:es.length<=2016)(h1:(lo.length:Int)=nd)(h2:∀v:Int,0<=v->v<nd->e_ lo v=loadS es E parts v)(h:m∈lo++[0]/\∀x∈lo++[0],x<=m):0<=m/\m<=4032000/\∀N,0<=N->SplitP nd N E es parts->m<=N:=by
 refine ⟨h.2 0<|by simp,?_,λN h0 hP=>?_⟩
 ·rcases List.mem_append.1 h.1 with h3|h3
  ·obtain ⟨i,hi,rfl⟩:=E6 h3
   rw [h2 _ om om]
   have:=loadT_bdM (es:=es) (D:=E) (parts:=parts) (λi hi=>M.at i<|by have:=M.2.1;omega) hE (i:Int) es.length (Nat.le_refl _)
   have h4:loadS es E parts (i:Int)=loadT es E parts es.length (i:Int):=rfl
   rw [h4];omega
  rw [List.mem_singleton.1 h3];omega
 rcases List.mem_append.1 h.1 with h3|h3
 ·obtain ⟨i,hi,rfl⟩:=E6 h3
  rw [h2 _ om om]
  exact hP.load _ om om
 rw [List.mem_singleton.1 h3];exact h0
theorem DBound_ok(hl:Sl κ I (.slice ea es.length ec) es)(hs:Sl κ I (.slice pa parts.length pc) parts)(hG:GrOk nd es)(hF:FitsP es E parts)(hE:E<=1000):eu prog κ 359 [.agg #[e7 nd,.slice ea es.length ec],.agg #[e7 E,.slice pa parts.length pc]] I (λr J=>∃m:Int,r = .tuple #[.agg #[e7 (mkF m E).num,e7 (mkF m E).den],e7 0]/\(0<=m/\m<=4032000/\∀N,0<=N->SplitP nd N E es parts->m<=N)/\I=J):=by
 have hm:=edges_le hG
 have ak:=hG.rng
 have ap:=hF.1
 refine Ce2 Tryz.func359 C C ?_
 refine Ap<|Ge1 (Ak (cs:=[_,_]) C C C) λb1=>Ge1 (Ak (cs:=[_,_]) C C C) λb2=>Ge1 (Am ty34 C) λb3=>Z ?_
 refine G.e (Ad c_ C C<|Loads_ok (nd:=nd) (E:=E) (As hl) (As hs) hG hF hE) ?_
 rintro _ _ ⟨_,_,⟨ar,aq,lo,rfl,⟨aa,M⟩,rfl⟩,rfl,rfl⟩
 refine Z ?_
 refine Av C (λab=>?_)<|λab=>?_
 ·exact absurd rfl ab
 refine Bs<|Au<|A3<|A4 mixed<|Cg (e8 b2 [e7 E,.slice pa parts.length pc] 40::e8 b1 [e7 nd,.slice ea es.length ec] 56::I) 9<|Z ?_
 refine Dr 4 C (Ac fld40_0 C)<|Z ?_
 refine Ds1 1<|Se1 C (Ca (α:=Int) (cs:=[_]) (xs:=[0]) Aa ef C C dc dc C C C C) λao=>?_
 refine Ds1 2<|Se2 C (Cf (α:=Int) (e:=3) (xs:=lo) (ys:=([0]:List Int)) Aa ef C C C mm A7 lcn dc C<|λ_ _=>am) λan au=>?_
 refine Ds1 3<|Se C (Ad c_ C C<|MaxI_ok (xs:=lo++([0]:List Int)) A7<|by simp) ?_
 rintro _ _ ⟨_,_,⟨ad,rfl,ai,rfl⟩,rfl,rfl⟩
 refine ⟨Aj,?_⟩
 obtain ⟨ah,aj,ae⟩:=max_ok hF hE hm aa M ai
 refine Ds1 6<|Sc0 C (Ad c_ C C<|MakeF_ok ad E om om)<|Z ?_
 refine C7 kr ?_
 refine Ae 9 C (Ci ty34) ?_
 rintro _ _ ⟨rfl,rfl⟩
 refine Fg (i:=10) kr C (Ba C) C C (A0 C) ?_
 refine C9 kr<|Z ?_
 exact D5 C ty34 C C mm C I Ah ⟨ad,rfl,⟨ah,aj,ae⟩,rfl⟩
theorem DCheck_ok{sa:Option Addr}{sc:Nat}(hl:Sl κ I (.slice ea es.length ec) es)(hS:Sl κ I (.slice sa S.length sc) S)(hs:Sl κ I (.slice pa parts.length pc) parts)(hG:GrOk nd es)(hE:E<=1000):eu prog κ 357 [.agg #[e7 nd,.slice ea es.length ec],.agg #[.slice sa S.length sc,e7 dn,e7 dd,e7 E,.slice pa parts.length pc]] I (λr J=>∃c,r=e7 c/\(AccD nd es S dn dd E parts->c=0)/\I=J):=by
 refine Ce2 Tryz.func357 C C ?_
 refine Ap<|Ge1 (Ak (cs:=[_,_]) C C C) λb1=>Ge1 (Ak (cs:=[_,_,_,_,_]) C C C) λb2=>Z ?_
 refine Gc0 (Ad c_ C C<|CheckGen_ok<|As hl)<|Z ?_
 refine Av C (λc13=>?_)<|λc13=>?_
 ·exact absurd (checkG_ok.2 hG) c13
 refine Bs<|Au<|A3<|Fa (σ:=Bool) (λs=>([(2,.pointer<|some ⟨b1,0,none⟩),(3,.pointer<|some ⟨b2,0,none⟩),(38,.bool s)]:Env)) (λs=>e8 b2 [.slice sa S.length sc,e7 dn,e7 dd,e7 E,.slice pa parts.length pc] 118::e8 b1 [e7 nd,.slice ea es.length ec] 56::I) (λs=>(s=true->¬AccD nd es S dn dd E parts)/\(s=false->FitsP es E parts)) ?_ ?_
 ·refine Z ?_
  refine Gc0 (Ad c_ C C<|NValid_ok (As hS) nd)<|Z ?_
  refine A6 (d:=21) C (λap=>Z ?_)<|λap=>Z ?_
  ·exact Cn ((true)) ⟨(λM hA=>by obtain ⟨⟨a1,a2,a3⟩,a4,_⟩:=hA.ok hG;first|omega|(simp_all;done)|(have:=a3 om;omega)),(λM=>by first|(exact absurd M dc)|(simpa using M))⟩
  refine A6 (d:=26) C (λak=>Z ?_)<|λak=>Z ?_
  ·refine A6 (d:=32) C (λao=>Z ?_) (λao=>Z ?_)
   ·exact Cn ((true)) ⟨(λM hA=>by obtain ⟨⟨a1,a2,a3⟩,a4,_⟩:=hA.ok hG;first|omega|(simp_all;done)|(have:=a3 om;omega)),(λM=>by first|(exact absurd M dc)|(simpa using M))⟩
   refine Dn (B5 C C C) (Ad c_ C C<|Fits_ok (nd:=nd) (E:=E) (As hl)<|As hs) ?_
   rintro _ _ ⟨_,_,⟨rfl,rfl⟩,rfl,rfl⟩
   refine Z ?_
   exact Cn ((decide<|¬(FitsP es E parts))) ⟨(λM hA=>by obtain ⟨⟨a1,a2,a3⟩,a4,_⟩:=hA.ok hG;first|omega|(simp_all;done)|(have:=a3 om;omega)),(λM=>by first|(exact absurd M dc)|(simpa using M))⟩
  refine Dn (B5 C C C) (Ad c_ C C<|Fits_ok (nd:=nd) (E:=E) (As hl)<|As hs) ?_
  rintro _ _ ⟨_,_,⟨rfl,rfl⟩,rfl,rfl⟩
  refine Z ?_
  exact Cn ((decide<|¬(FitsP es E parts))) ⟨(λM hA=>by obtain ⟨⟨a1,a2,a3⟩,a4,_⟩:=hA.ok hG;first|omega|(simp_all;done)|(have:=a3 om;omega)),(λM=>by first|(exact absurd M dc)|(simpa using M))⟩
 rintro bq hp
 obtain ⟨aq,ad⟩:(bq=true->¬AccD nd es S dn dd E parts)/\(bq=false->FitsP es E parts):=hp
 refine D6 C (λab=>Z ?_)<|λab=>Z ?_
 ·exact Ai C C I Ah ⟨4,rfl,(λhA=>absurd hA<|aq ab),rfl⟩
 refine Gc0 (Ad c_ C C<|DensityG_ok (nd:=nd) (As hl) (As hS)<|by have:=edges_le hG;omega)<|Z ?_
 refine Ge1 (Am ty34 C) λb3=>Ge0 (Ci ty34)<|Z ?_
 refine G.e (Ad c_ C C<|DBound_ok (nd:=nd) (E:=E) (As hl) (As hs) hG (ad ab) hE) ?_
 rintro _ _ ⟨_,_,⟨bm,rfl,⟨ai,ar,ah⟩,rfl⟩,rfl,rfl⟩
 refine Z ?_
 refine Ge1 (Am ty34 C) λb4=>Ge0 (Ci ty34)<|Z ?_
 have aj:=ad ab
 have ae:FrV (mkF bm E):=mkF_val om om (by have:=aj.1;omega) (by have:=aj.1;omega)
 refine Z ?_
 refine Gr (Dj (α:=Fr) (a:=(densG nd es S)) (b:=(⟨dn,dd⟩:Fr)) eqt34 C C)<|Gm C<|A6 (d:=57) C (λan=>Z ?_)<|λan=>Z ?_
 ·exact Ai C C I Ah ⟨12,rfl,(λhA=>by obtain ⟨⟨a1,a2,a3⟩,a4,a5,a6,a7,a8⟩:=hA.ok hG;first|(exact absurd (show (⟨(densG nd es S).num,(densG nd es S).den⟩:Fr)=⟨dn,dd⟩ from by rw [a1]) asm)|(rw [a1] at aa;subst a5;exact absurd aa<|bound_np ⟨ai,ah _ a8 a6⟩ a7.1)),rfl⟩
 refine Dn (B5 C C C) (Ad c_ C C<|RatCmp_ok (mkF bm E) (densG nd es S) (by first|exact densG_frv hG S|exact ae)<|by first|exact densG_frv hG S|exact ae) ?_
 rintro _ _ ⟨_,_,⟨rfl,rfl⟩,rfl,rfl⟩
 refine Z ?_
 refine Av C (λaa=>Z ?_)<|λaa=>Z ?_
 ·exact Ai C C I Ah ⟨12,rfl,(λhA=>by obtain ⟨⟨a1,a2,a3⟩,a4,a5,a6,a7,a8⟩:=hA.ok hG;first|(exact absurd (by rw [a1]) asm)|(rw [a1] at aa;subst a5;exact absurd aa<|bound_np ⟨ai,ah _ a8 a6⟩ a7.1)),rfl⟩
 exact Ai C C I Ah ⟨0,rfl,(λ_=>rfl),rfl⟩
end Go.Sl
namespace Go.Sl
open Go.Proofs
set_option maxRecDepth 4000
section
variable {nd kd wd mo K node lv tq num den:Int}{S:List Int}{es:List Pt}{ev:List Ev}{A B:AnV}
theorem mkF_self{N D:Int}(h:FrV ⟨N,D⟩):mkF N D=⟨N,D⟩:=by
 have M:gcdI N D=1:=h.cop
 unfold mkF
 rw [M,Int.ediv_one,Int.ediv_one]
theorem BestR.uniq{N D N' D':Int}{B B':BitVec 64}(hG:GrOk nd es)(h:BestR nd es N D B)(h':BestR nd es N' D' B'):N=N'/\D=D'/\eo B=eo B':=by
 have hz:=checkG_ok.2 hG
 by_cases hn:nd=0
 ·obtain ⟨a1,a2,a3⟩:=h.none hz hn
  obtain ⟨b1,b2,b3⟩:=h'.none hz hn
  subst a1 a2 a3 b1 b2 b3
  exact ⟨rfl,rfl,rfl⟩
 have d:=h.some hz hn
 have M:=h'.some hz hn
 have e:=DensP.uniq d.den.1 M.den.1 d.dens M.dens
 have f:=h.frv hG
 have f':=h'.frv hG
 have n0:0<=N:=f.n0
 have ab:0<=N':=f'.n0
 have d0:1<=D:=f.d0
 have ad:1<=D':=f'.d0
 have aa:=mkF_eq n0 (show 0<D by omega) ab (show 0<D' by omega) e
 rw [mkF_self f,mkF_self f'] at aa
 obtain ⟨rfl,rfl⟩:N=N'/\D=D':=by injection aa with h1 h2;exact ⟨h1,h2⟩
 exact ⟨rfl,rfl,intLin.uniq (listB_asc _) (listB_asc _) λx=>⟨λhx=>M.dens.great B d.dens.sub d.dens.eq x hx,λhx=>d.dens.great B' M.dens.sub M.dens.eq x hx⟩⟩
def same6(A B:AnV):Prop:=A.fd=B.fd/\A.num=B.num/\A.S=B.S/\A.dn=B.dn/\A.dd=B.dd/\A.P=B.P
theorem is_eq{fd:Bool}{n:Int}{L:List Int}{x y:Int}{Z:List Pt}(a:A.is fd n L x y Z)(b:B.is fd n L x y Z):same6 A B:=by
 obtain ⟨a1,a2,a3,a4,a5,a6⟩:=a
 obtain ⟨b1,b2,b3,b4,M,b6⟩:=b
 exact ⟨a1.trans b1.symm,a2.trans b2.symm,a3.trans b3.symm,a4.trans b4.symm,a5.trans M.symm,a6.trans b6.symm⟩
theorem GrP.same(hG:GrOk nd es)(hK:1<=K/\K<=7)(a:GrP nd es K node lv S A)(b:GrP nd es K node lv S B):same6 A B:=by
 rcases (show K=1\/K=2\/K=3\/K=4\/K=5\/K=6\/K=7 by omega) with e|e|e|e|e|e|e
 ·exact is_eq (a.k1 e).1 (b.k1 e).1
 ·exact is_eq (a.k2 e).1 (b.k2 e).1
 ·obtain ⟨y,M,s1,x1,z1,p1,_⟩:=a.k3 e
  obtain ⟨y2,h2,s2,x2,z2,p2,_⟩:=b.k3 e
  obtain rfl:=M.find.uniq h2.find
  refine ⟨M.fd.trans h2.fd.symm,?_,s1.trans s2.symm,x1.trans x2.symm,z1.trans z2.symm,p1.trans p2.symm⟩
  by_cases hy:y<0
  ·rw [(M.none hy).1,(h2.none hy).1]
  rw [(M.some om).1,(h2.some om).1]
 ·exact is_eq (a.k4 e).1 (b.k4 e).1
 ·obtain ⟨⟨B1,M,_,s1⟩,f1,n1,p1,_⟩:=a.k5 e
  obtain ⟨⟨B2,h2,_,s2⟩,f2,n2,p2,_⟩:=b.k5 e
  obtain ⟨e1,e2,e3⟩:=M.uniq hG h2
  exact ⟨f1.trans f2.symm,n1.trans n2.symm,s1.trans<|e3.trans s2.symm,e1,e2,p1.trans p2.symm⟩
 ·obtain ⟨M,i1,_⟩:=a.k6 e
  obtain ⟨h2,i2,_⟩:=b.k6 e
  have:=M.uniq h2
  rw [←this] at i2
  exact is_eq i1 i2
 exact is_eq (a.k7 e).1 (b.k7 e).1
theorem same_alike(h:same6 A B)(M:A.tm=B.tm):alikeP A B:=⟨h.1,h.2.1,M,(cmpL_eq _ _).2 h.2.2.1,by rw [h.2.2.2.1,h.2.2.2.2.1],h.2.2.2.2.2⟩
theorem zero_alike(a:A.zero)(b:B.zero):alikeP A B:=same_alike (is_eq a.1 b.1) (a.2.2.trans b.2.2.symm)
theorem FirstP.uniq{p:Int->Prop}{t t2:Int}{k k2:Bool}(h:FirstP kd wd mo ev p t k)(h2:FirstP kd wd mo ev p t2 k2):t=t2/\k=k2:=by
 rcases h with ⟨rfl,⟨e,he,rfl⟩,hp,hl⟩|⟨rfl,rfl,hn⟩<;>rcases h2 with ⟨rfl,⟨e2,aa,rfl⟩,M,ab⟩|⟨rfl,rfl,ad⟩
 ·have a1:¬e2.tm<e.tm:=λq=>hl e2 aa q M
  have a2:¬e.tm<e2.tm:=λq=>ab e he q hp
  exact ⟨by omega,rfl⟩
 ·exact absurd hp<|ad e he
 ·exact absurd M<|hn e2 aa
 exact ⟨rfl,rfl⟩
theorem AnsP.alike(hH:HistOk nd kd wd mo ev)(hK:1<=K/\K<=10)(a:AnsP nd kd wd mo ev K node lv tq S num den A)(b:AnsP nd kd wd mo ev K node lv tq S num den B):alikeP A B:=by
 by_cases h7:K<=7
 ·exact same_alike ((a.g h7).1.same (hH.graph _) ⟨hK.1,h7⟩ (b.g h7).1)<|(a.g h7).2.trans (b.g h7).2.symm
 rcases (show K=8\/K=9\/K=10 by omega) with e|e|e
 ·obtain ⟨t,k,hf,hy,hn⟩:=a.k8 e
  obtain ⟨t2,k2,ab,M,aa⟩:=b.k8 e
  obtain ⟨rfl,rfl⟩:=hf.uniq ab
  cases k with
  |true=>exact same_alike ((hy rfl).1.same (hH.graph _) dc (M rfl).1) ((hy rfl).2.trans (M rfl).2.symm)
  |false=>exact zero_alike (hn rfl) (aa rfl)
 ·obtain ⟨t,k,hf,hy,hn⟩:=a.k9 e
  obtain ⟨t2,k2,ab,M,aa⟩:=b.k9 e
  obtain ⟨rfl,rfl⟩:=hf.uniq ab
  cases k with
  |true=>exact same_alike (is_eq (hy rfl).1 (M rfl).1) ((hy rfl).2.2.trans (M rfl).2.2.symm)
  |false=>exact zero_alike (hn rfl) (aa rfl)
 exact same_alike (is_eq (a.k10 e).1 (b.k10 e).1)<|(a.k10 e).2.2.trans (b.k10 e).2.2.symm
variable {k2 w2 m2:Int}{ev2:List Ev}
theorem askQ_ok(h:HistOk nd kd wd mo ev):askQ nd kd wd mo ev K node lv tq S num den=checkQ nd K node lv tq S num den:=if_neg (by simp [slideE_zeroH h])
theorem QV.tim(h:QV nd K node lv tq S num den)(M:K<=7):0<=tq/\tq<=1048576:=h.time (decide_eq_true ⟨h.rng.1,M⟩)
end
end Go.Sl
