/- A part of the proofs of statements of this seat: contracts of functions, and the plain laws that they lean on. No conditions. -/
import Derived.Test.YtfkcohmipjhfcaaGreatDoorS23
import Derived.ProofKit
import Derived.OpenShut
import Derived.ChangeOld
import Derived.Below
import Derived.SizedLaws
import Derived.JoinedOf
import Derived.Deep.Slices
import Derived.Deep.Fields
set_option linter.unusedVariables false
set_option linter.unusedSimpArgs false
set_option linter.unusedSectionVars false
open Go.Proofs.Tryz (prog)
open List (replicate)
namespace Go.Sl
open Go.Proofs
set_option maxRecDepth 4000
variable {κ:Ctx}{I:List Item}
def alR(als:List AlV):List (RowG Int):=als.map λx=>⟨x.a,x.c,x.xs⟩
theorem alR_snoc(als:List AlV)(x:AlV):alR (als++[x])=alR als++[(⟨x.a,x.c,x.xs⟩:RowG Int)]:=by unfold alR;rw [List.map_append];rfl
theorem alR_held{als:List AlV}:∀x∈als,Sl κ (ownR 3 (alR als)++I) (.slice x.a x.xs.length x.c) x.xs:=λx hx=>Eq (List.mem_append_left _ (List.mem_map.2 ⟨⟨x.a,x.c,x.xs⟩,List.mem_map.2 ⟨x,hx,rfl⟩,rfl⟩))
set_option maxHeartbeats 2000000 in
theorem MkAlarms_ok{b:Nat}{lv:Value}{ls:List Int}{i nodes:Int}(hl:Sl κ I lv ls)(h0:0<=i)(hn:1<=nodes/\nodes<=64):ep prog κ 22 [.pointer (some ⟨b,0,none⟩),e7 nodes] (e8 b [lv,e7 i] 125::I) (λr J=>∃a c als q,r = .slice a als.length c/\(∀x∈als,AlOk nodes x)/\als.length<=4/\0<=q/\J=vc 42 (.slice a als.length c) als::(ownR 3 (alR als)++(deck b lv q::I))):=by
 refine Ce2 Tryz.func22 C C ?_
 refine Ah (Ga C (Af (Ah (Ga C (Af (Au (Ah (Gm C (G.e (Ao call19 C C (Next_ok (by repeat (first|exact AtF.head _ _|apply AtF.tail)) (Bh hl) om om)) ?_)))))))))
 rintro _ _ ⟨_,_,⟨x1,i2,rfl,hx1,hi2,rfl⟩,rfl,rfl⟩
 show G prog κ _ _ _ _ ([(8,e7 x1),(7,.pointer (some ⟨b,0,none⟩)),(5,.slice none 0 0),(4,.slice none 0 0),(0,.pointer (some ⟨b,0,none⟩)),(1,e7 nodes)]:Env) (e8 b [lv,e7 i2] 125::I)
 refine Ga C (Af (A4 (Bu (σ:=(Option Addr)×Nat×(List AlV)×Int×Int) (λs=>([(0,.pointer (some ⟨b,0,none⟩)),(1,e7 nodes),(5,.slice s.1 s.2.2.1.length s.2.1),(6,e7 (s.2.2.2.2))]:Env)) (λs=>vc 42 (.slice s.1 s.2.2.1.length s.2.1) (s.2.2.1)::e8 b [lv,e7 (s.2.2.2.1)] 125::(ownR 3 (alR s.2.2.1)++I)) (λs=>(∀x∈s.2.2.1,AlOk nodes x)/\(0<=s.2.2.2.2/\(s.2.2.1.length:Int)+s.2.2.2.2<=4)/\(0<=s.2.2.2.1)) (λs=>s.2.2.2.2.toNat) (none,0,[],i2,x1) (show (∀x∈([]:List AlV),AlOk nodes x)/\(0<=(x1:Int)/\(([]:List AlV).length:Int)+(x1:Int)<=4)/\(0<=(i2:Int)) from ⟨(λx hx=>by cases hx),(by simp only [List.length_nil];omega),om⟩) (Aa C (Aa C (Aa (Cr C (by first|rfl|simp)) (Aa B9 Bj)))) (show Fit κ _ (vc 42 (.slice none ([]).length 0) (([]))::e8 b [lv,e7 ((i2))] 125::(ownR 3 (alR ([]))++I)) from (Bt _ _)) ?_)))
 rintro ⟨a,c,out,iq,kq⟩ hp
 dsimp only at hp ⊢
 obtain ⟨hok,hkq,hiq⟩:=hp
 refine Au (Ah (Gm C (Gr (Bv C C) (Af (A6 C (λc10=>?_) (λc10=>?_))))))
 ·refine Ay (Aj (Au (A4 (Ax (Gm C (Gm C (Gm C (G.e (Ao call26 C C (MkAlarm_at (by repeat (first|exact AtF.head _ _|apply AtF.tail)) (λ_=>B5 hl A0) om  om)) ?_))))))))
  rintro _ _ ⟨_,_,⟨⟨xa3,i4⟩,⟨⟨rfl,haxa3,habxa3⟩,hi4⟩,rfl⟩,rfl,rfl⟩
  show G prog κ _ _ _ _ ([(16,.agg #[e7 (xa3.kd),e7 (xa3.no),e7 (xa3.lv),.slice xa3.a xa3.xs.length xa3.c,e7 (xa3.num),e7 (xa3.den)]),(15,e7 nodes),(14,.pointer (some ⟨b,0,none⟩)),(13,.slice a out.length c),(10,.bool (decide (0<kq))),(9,e7 kq),(0,.pointer (some ⟨b,0,none⟩)),(1,e7 nodes),(5,.slice a out.length c),(6,e7 kq)]:Env) (vc 3 (.slice xa3.a xa3.xs.length xa3.c) (xa3.xs)::vc 42 (.slice a out.length c) (out)::e8 b [lv,e7 i4] 125::(ownR 3 (alR out)++I))
  have hi4:0<=i4:=hi4
  refine Ge1 (B0 (α:=AlV) (cs:=[e7 (xa3.kd),e7 (xa3.no),e7 (xa3.lv),.slice xa3.a xa3.xs.length xa3.c,e7 (xa3.num),e7 (xa3.den)]) (xs:=[⟨xa3.kd,xa3.no,xa3.lv,xa3.a,xa3.c,xa3.xs,xa3.num,xa3.den⟩]) Cn ty42 C C dc dc C kr C C) λad5=>?_
  refine Ge2 (B1 (α:=AlV) (e:=42) (xs:=out) (ys:=([⟨xa3.kd,xa3.no,xa3.lv,xa3.a,xa3.c,xa3.xs,xa3.num,xa3.den⟩]:List AlV)) Cn ty42 C C C mm Bg lcn dc C (λ_ _=>am)) λad6 cp7=>?_
  exact Ga C (Bd (Ak (Aj (Ax (Gm C (Gr (Rsu C C) (Ga C (Bd (B2 ((ad6),(cp7),(out++[xa3]),(i4),(kq - 1)) (by dsimp only;exact ⟨(λx hx=>(List.mem_append.1 hx).elim (hok x) (λh=>by rw [List.mem_singleton.1 h];exact haxa3)),lap,om⟩) (hI:=by (try dsimp only);exact (by rw [alR_snoc];exact Cc (show Fit κ _ ([vc 42 (.slice ad6 (out++([⟨xa3.kd,xa3.no,xa3.lv,xa3.a,xa3.c,xa3.xs,xa3.num,xa3.den⟩]:List AlV)).length cp7) (out++([⟨xa3.kd,xa3.no,xa3.lv,xa3.a,xa3.c,xa3.xs,xa3.num,xa3.den⟩]:List AlV)),e8 b [lv,e7 i4] 125]++vc 3 (.slice xa3.a xa3.xs.length xa3.c) (xa3.xs)::(ownR 3 (alR out)++I)) from B4) (Fit.ownR_snoc (A:=[vc 42 (.slice ad6 (out++([⟨xa3.kd,xa3.no,xa3.lv,xa3.a,xa3.c,xa3.xs,xa3.num,xa3.den⟩]:List AlV)).length cp7) (out++([⟨xa3.kd,xa3.no,xa3.lv,xa3.a,xa3.c,xa3.xs,xa3.num,xa3.den⟩]:List AlV)),e8 b [lv,e7 i4] 125]) (e:=3) (rs:=alR out) (r:=(⟨xa3.a,xa3.c,xa3.xs⟩:RowG Int))))))))))))))
 ·exact Bs (Ap (Ap (A7 (Aj (Ah (Gm C (Ga C (Af (Aw (A1 C C (vc 42 (.slice a out.length c) out::(ownR 3 (alR out)++(e8 b [lv,e7 iq] 125::I))) (Fit.perm (List.Perm.cons _ (perm_fr (A:=[e8 b [lv,e7 iq] 125]) (L:=ownR 3 (alR out)) (T:=I)))) ⟨a,c,out,iq,rfl,hok,by omega,by omega,rfl⟩))))))))))
section
variable {nd kd wd mo:Int}{es:List Ev}{als:List AlV}
theorem rings_len(hH:HistOk nd kd wd mo es)(hlen:es.length<=19)(hal:als.length<=16):(ringsV nd kd wd mo es als).length<=928:=by
 have h1:=(ringS_len (alH nd kd wd mo es als) als.length (timesZ kd wd mo es) _ (Nat.le_refl _)).2
 rw [List.take_length] at h1
 have h2:=timesL_len hH hlen
 have h3:als.length*(timesZ kd wd mo es).length<=16*58:=Nat.mul_le_mul hal h2
 unfold ringsV
 omega
end
theorem asc_split{T:Int}:∀{xs:List Int},xs.Pairwise (· < ·)->∃a b,xs=a++b/\(∀t∈a,t<=T)/\∀t∈b,¬t<=T
 |[],_=>⟨[],[],rfl,λt h=>(by cases h),λt h=>(by cases h)⟩
 |x::xs,h=>by
  obtain ⟨h1,h2⟩:=List.pairwise_cons.1 h
  by_cases hx:x<=T
  ·obtain ⟨a,b,e,ha,hb⟩:=asc_split (T:=T) h2
   exact ⟨x::a,b,by rw [e];rfl,λt ht=>by rcases List.mem_cons.1 ht with rfl|ht;(· exact hx);(· exact ha t ht),hb⟩
  ·exact ⟨[],x::xs,rfl,λt h=>(by cases h),λt ht=>by rcases List.mem_cons.1 ht with rfl|ht;(· exact hx);(· have:=h1 t ht;omega)⟩
section
variable {nd kd wd mo T:Int}{es:List Ev}{als:List AlV}
theorem atK_same(hH:HistOk nd kd wd mo es){t:Int}(h:∀e∈allE kd wd mo es,e.tm<=t↔e.tm<=T):atK kd wd mo es t=atK kd wd mo es T:=by
 have e0:∀T,atK kd wd mo es T=eh ((allE kd wd mo es).filter (upT T)):=λT=>by
  unfold atK;rw [←up_asc hH.all_asc];rfl
 rw [e0,e0]
 congr 1
 refine List.filter_congr λe he=>?_
 unfold upT
 rw [decide_eq_decide]
 exact h e he
theorem times_has{e:Ev}(he:e∈allE kd wd mo es):e.tm∈timesZ kd wd mo es:=by
 unfold timesZ
 refine mem_ascZ.2 ?_
 unfold timesL
 unfold allE at he
 refine List.mem_cons_of_mem _ (List.mem_append.2 ?_)
 rcases List.mem_append.1 he with h|h
 ·exact .inl (List.mem_map_of_mem h)
 ·exact .inr (List.mem_map_of_mem ((D3 _ _).mem_iff.1 h))
theorem states_ok(hH:HistOk nd kd wd mo es)(hT:0<=T/\T<=1048576) :
  (statS T (replicate als.length false,replicate als.length false) (ringsV nd kd wd mo es als)).2.length=als.length/\
  (∀i,i<als.length->e_ (statS T (replicate als.length false,replicate als.length false) (ringsV nd kd wd mo es als)).2 (i:Int)=holdV nd (atG kd wd mo es T) (e_ als i))/\
  rokS (replicate als.length false) (ringsV nd kd wd mo es als):=by
 have hasc:(timesZ kd wd mo es).Pairwise (· < ·):=ascZ_asc _
 obtain ⟨a,b,e,ha,hb⟩:=asc_split (T:=T) hasc
 have h0:(0:Int)∈a:=by
  have:(0:Int)∈timesZ kd wd mo es:=mem_ascZ.2 (by unfold timesL;exact List.mem_cons_self)
  rw [e] at this
  rcases List.mem_append.1 this with h|h
  ·exact h
  ·exact absurd hT.1 (hb _ h)
 unfold ringsV
 rw [ringS_eq,e]
 obtain ⟨h1,h2,h3⟩:=stat_rel (alH nd kd wd mo es als) (n:=als.length) ha hb
 refine ⟨h1,λi hi=>?_,h3⟩
 rw [h2 i hi]
 rcases List.eq_nil_or_concat a with rfl|⟨a',t,rfl⟩
 ·cases h0
 ·rw [List.concat_eq_append] at e ha h0 ⊢
  rw [lastP_snoc]
  show holdV nd (edgesK (atK kd wd mo es t)) _=holdV nd (edgesK (atK kd wd mo es T)) _
  rw [atK_same (t:=t) (T:=T) hH λx hx=>?_]
  have htT:=ha t (by simp)
  refine ⟨λh=>by omega,λh=>?_⟩
  have hm:=times_has (kd:=kd) (wd:=wd) (mo:=mo) hx
  rw [e] at hasc hm
  rcases List.mem_append.1 hm with hm|hm
  ·rcases List.mem_append.1 hm with hm|hm
   ·have:=(List.pairwise_append.1 (List.pairwise_append.1 hasc).1).2.2 _ hm t (by simp)
    omega
   ·rw [List.mem_singleton.1 hm];exact Int.le_refl _
  ·exact absurd h (hb _ hm)
end
set_option maxHeartbeats 1000000 in
theorem State_ok{κ:Ctx}{I:List Item}{va:Value}{R:List Rg}(hl:Sl κ I va R){n:Nat}(hn:n<=16)(T:Int)(hok:rokS (replicate n false) R):ep prog κ 32 [va,e7 ((n:Int)),e7 T] I (λr J=>∃a c,r = .tuple #[.slice a (statS T (replicate n false,replicate n false) R).2.length c,e7 0]/\J=vc 4 (.slice a (statS T (replicate n false,replicate n false) R).2.length c) (statS T (replicate n false,replicate n false) R).2::I):=by
 refine B3 hl.le λhmax=>?_
 refine Ce3 Tryz.func32 C C ?_
 refine Ah (Ga C (Ga C (Af (Au (Ah (Gm C (Gr (A9 C C) (Gm C (Ba (d:=14) C (λg14=>?_) (λg14=>?_))))))))))
 ·exfalso;omega
 ·refine e9 (Ad C) (e9 (Bv C C) (Gr (Al C C) (Af (A6 C (λc17=>?_) (λc17=>?_)))))
  ·omega
  ·refine Ay (Aj (En (σ:=(Option Addr)×Nat×(Option Addr)×Nat) (λs=>([(0,va),(1,e7 ((n:Int))),(2,e7 T),(8,.slice s.1 (replicate n (default:Bool)).length s.2.1),(9,.slice s.2.2.1 (replicate n (default:Bool)).length s.2.2.2)]:Env)) (λs=>vc 4 (.slice s.1 (replicate n (default:Bool)).length s.2.1) ((replicate n (default:Bool)))::vc 4 (.slice s.2.2.1 (replicate n (default:Bool)).length s.2.2.2) ((replicate n (default:Bool)))::I) (λs=>True) ?_ ?_))
   ·refine Bl mixed (Br I 6 (Dr 0 C (Ad C) (Dr 2 C (Ad C) (Ds (rs:=[1,3]) kr C C (Ej ?_ (Et ?_))))))
    ·refine Se2 C (Cj (α:=Bool) (n:=n) Bw ty4 C C C om om dc C) λad1 cp2=>?_
     refine Dr 4 C (Bb C) (Ds1 3 (Se2 C (Cj (α:=Bool) (n:=n) Bw ty4 C C C om om dc C) λad3 cp4=>?_))
     exact Dr 5 C (Bb C) (Dz (Di ((ad1),(cp2),(ad3),(cp4)) trivial))
    ·refine Se2 C (Cj (α:=Bool) (n:=n) Bw ty4 C C C om om dc C) λad5 cp6=>?_
     refine Ds1 1 (Se2 C (Cj (α:=Bool) (n:=n) Bw ty4 C C C om om dc C) λad7 cp8=>?_)
     exact Dr 4 C (Bb C) (Dr 5 C (Bb C) (Dz (Di ((ad7),(cp8),(ad5),(cp6)) trivial)))
   ·rintro ⟨x8,y8,x9,y9⟩ hp
    show W prog κ 65 _ _ ([(0,va),(1,e7 ((n:Int))),(2,e7 T),(8,.slice x8 (replicate n (default:Bool)).length y8),(9,.slice x9 (replicate n (default:Bool)).length y9)]:Env) (vc 4 (.slice x8 (replicate n (default:Bool)).length y8) ((replicate n (default:Bool)))::vc 4 (.slice x9 (replicate n (default:Bool)).length y9) ((replicate n (default:Bool)))::I)
    refine Au (Ah (Gm C (Gr (Bx (α:=Rg) (xs:=R) Cy C (Bh hl)) (Gm C (Af (A4 (Bu (σ:=Nat×(List Bool)×(List Bool)) (λs=>([(1,e7 ((n:Int))),(2,e7 T),(8,.slice x8 (replicate n (default:Bool)).length y8),(9,.slice x9 (replicate n (default:Bool)).length y9),(22,va),(23,e7 ((R.length:Nat):Int)),(24,e7 ((s.1:Nat):Int))]:Env)) (λs=>vc 4 (.slice x8 (replicate n (default:Bool)).length y8) (s.2.1)::vc 4 (.slice x9 (replicate n (default:Bool)).length y9) (s.2.2)::I) (λs=>(s.1<=R.length)/\((s.2.1,s.2.2)=statS T (replicate n false,replicate n false) (R.take s.1))) (λs=>R.length - s.1) (0,replicate n false,replicate n false) (show ((0:Nat)<=R.length)/\(((replicate n false:List Bool),(replicate n false:List Bool))=statS T (replicate n false,replicate n false) (R.take (0:Nat))) from ⟨om,rfl⟩) (Aa C (Aa C (Aa C (Aa C (Aa C (Aa C (Aa B9 Bj))))))) (show Fit κ _ (vc 4 (.slice x8 (replicate n (default:Bool)).length y8) ((replicate n false))::vc 4 (.slice x9 (replicate n (default:Bool)).length y9) ((replicate n false))::I) from A5) ?_)))))))
    rintro ⟨k,on,out⟩ hp
    dsimp only at hp ⊢
    obtain ⟨hk,hst⟩:=hp
    have hsl:=statS_len T (R.take k) (replicate n false,replicate n false)
    rw [←hst] at hsl
    simp only [List.length_replicate] at hsl
    have hs1:=hsl.1
    have hs2:=hsl.2
    refine Ah (Gr (A9 C C) (Af (Au (A6 C (λc25=>?_) (λc25=>?_)))))
    ·refine Ay (Aj (Au (A4 (Ah (Gr (A3 (α:=Rg) (xs:=R) Cy ty44 C C (Bh hl) om (by first|omega|(simp only [List.length_set];omega)|(simp only [List.length_replicate];omega))) (Gr (Bp (α:=Rg) (xs:=R) ty44 C (Bh hl) om (by first|omega|(simp only [List.length_set];omega)|(simp only [List.length_replicate];omega))) ?_))))))
     have hrk:=rokS_at hok k om
     have hon:on=foldOn (R.take k) (replicate n false):=by have h:=congrArg Prod.fst hst;rw [statS_fst] at h;exact h
     have hrk1:=hrk.1.2
     rw [List.length_replicate] at hrk1
     have hrk0:=hrk.1.1
     refine Ge1 (A8 ty44 C) λb9=>Ge0 (Es3_3 ty44) ?_
     refine Af (Au (Au (Bl mixed (Br (e8 b9 [e7 ((e_ R k).tm),e7 ((e_ R k).al),.bool ((e_ R k).on)] 44::vc 4 (.slice x8 (replicate n (default:Bool)).length y8) (on)::vc 4 (.slice x9 (replicate n (default:Bool)).length y9) (out)::I) 19 (Dr 0 C (Ab fld44_1 C) (Dr 1 C (As ef) ?_))))))
     refine Dr 2 C (A9 C C) (Dr 3 C (Ad C) (C9 (d:=31) C (λg31=>?_) (λg31=>?_)))
     ·exfalso;omega
     ·refine Dro 4 C (Ab fld44_1 C) (Dro 5 C (As ef) ?_)
      refine Dro 6 C (Ad C) (Dro 7 C (B8 C C) (Dr 8 C (Al C C) (Dr 9 C (Ad C) (C9 (d:=37) C (λg37=>?_) (λg37=>?_)))))
      ·exfalso;omega
      ·refine Dro 10 C (Ad C) (Dro 11 C (Ab fld44_1 C) (Dro 12 C (As ef) ?_))
       refine Dro 13 C (A3 (α:=Bool) (xs:=on) Bw ty4 C C Bg om (by first|omega|(simp only [List.length_set];omega)|(simp only [List.length_replicate];omega))) (Dro 14 C (Ef (xs:=on) ty4 C Bg om (by first|omega|(simp only [List.length_set];omega)|(simp only [List.length_replicate];omega))) (Dro 15 C (Ab fld44_2 C) (Dro 16 C (As ty4) ?_)))
       refine Dro 17 C (Runs.eqlb D7 C C) (Dr 18 C (Al C C) (Dz (Aj (Aq (S9 46 11 1 2 8 9 22 23 24 C C C C C C C C C) (A6 C (λc46=>?_) (λc46=>?_))))))
       ·exact absurd c46 (by rw [hon];exact hrk.2)
       ·refine Ay (Aj (Ah (Gm C (Gf fld44_1 C (Gl ef ?_)))))
        refine Gf fld44_2 C (Gl ty4 ?_)
        refine Gr (A3 (α:=Bool) (xs:=on) Bw ty4 C C Bg om (by first|omega|(simp only [List.length_set];omega)|(simp only [List.length_replicate];omega))) (Ge0 (Cs (α:=Bool) (xs:=on) (e:=4) (new:=(e_ R k).on) ty4 C C C om (by first|omega|(simp only [List.length_set];omega)|(simp only [List.length_replicate];omega)) am) ?_)
        refine Af (Aq (S8 11 1 2 8 9 22 23 24 C C C C C C C C) (Ah (Gf fld44_0 C (Gl ef ?_))))
        refine Gm C (Gr (Du C C) (Af (A6 C (λc56=>?_) (λc56=>?_))))
        ·refine Ax (Gm C (Gf fld44_1 C (Gl ef ?_)))
         refine Gf fld44_2 C (Gl ty4 ?_)
         refine Gr (A3 (α:=Bool) (xs:=out) Bw ty4 C C Bg om (by first|omega|(simp only [List.length_set];omega)|(simp only [List.length_replicate];omega))) (Ge0 (Cs (α:=Bool) (xs:=out) (e:=4) (new:=(e_ R k).on) ty4 C C C om (by first|omega|(simp only [List.length_set];omega)|(simp only [List.length_replicate];omega)) am) ?_)
         exact Bd (Ak (Aj (Aq (S7 1 2 8 9 22 23 24 C C C C C C C) (Ax (Gr (Rad C C) (Gm C (Bd (B2 ((k+1),(List.set on ((e_ R k).al).toNat ((e_ R k).on)),(List.set out ((e_ R k).al).toNat ((e_ R k).on))) (by dsimp only;exact ⟨om,(by rw [statS_take om,←hst];unfold stepT;first|rw [if_pos c56]|rw [if_neg c56])⟩)))))))))
        ·exact Ay (Ak (Aj (Ax (Gr (Rad C C) (Gm C (Bd (B2 ((k+1),(List.set on ((e_ R k).al).toNat ((e_ R k).on)),(out)) (by dsimp only;exact ⟨om,(by rw [statS_take om,←hst];unfold stepT;first|rw [if_pos c56]|rw [if_neg c56])⟩))))))))
    ·refine Bs (Ap (Ap (A7 (Aj (Ah (Gm C (Ga C (Ga C (Af (Aw ?_))))))))))
     have hE:out=(statS T (replicate n false,replicate n false) R).2:=by have h:=congrArg Prod.snd hst;rw [List.take_of_length_le om] at h;exact h
     have hnl:(replicate n (default:Bool)).length=out.length:=by rw [List.length_replicate];exact hs2.symm
     exact Co C C C (vc 4 (.slice x9 (statS T (replicate n false,replicate n false) R).2.length y9) (statS T (replicate n false,replicate n false) R).2::I) (by rw [←hE,←hnl];exact B4) ⟨x9,y9,by rw [←hE,←hnl],rfl⟩
theorem times_app{nd kd wd mo x:Int}{es:List Ev}(hH:HistOk nd kd wd mo es)(hx:0<=x/\x<60):∀t∈timesR kd wd mo es++[0,x],0<=t/\t<=1048576:=λt ht=>by
 rcases List.mem_append.1 ht with h|h
 ·exact timesR_rng hH t h
 ·simp only [List.mem_cons,List.not_mem_nil,or_false] at h;omega
set_option maxHeartbeats 8000000 in
theorem AlertStates_walk{κ:Ctx}{I:List Item}{la:Option Addr}{ln lc:Nat}{ls:List Int}(hl:Sl κ I (.slice la ln lc) ls)(m0:Int)(hm0:0<=m0/\m0<256)(hT:TabRd κ I 0 tzCells):ep prog κ 7 [.slice la ln lc,.int .u8 m0] I (λr J=>r = .bool true/\I=J):=by
 have ht60:0<=Int.tmod m0 60/\Int.tmod m0 60<60:=by rw [Int.tmod_eq_emod_of_nonneg hm0.1];omega
 refine Ce2 Tryz.func7 C C ?_
 refine Ah (Ga C (Af (Au (Ah (Gm C (Gc0 (Ao call16 C C Few_ok) ?_))))))
 refine Gr (C0 C) (Af (A6 C (λc24=>?_) (λc24=>?_)))
 ·refine Ah (G.e (Ao call17 C C (Awake44_ok (Cg hT A0))) ?_)
  rintro _ _ ⟨_,_,⟨rfl,rfl⟩,rfl,rfl⟩
  exact Ga C (Af (Aw (Ai (A1 C C I A0 ⟨rfl,rfl⟩))))
 ·refine Ay (Aj (Ah (Gm C (G.e (Ao call18 C C New_ok) ?_))))
  rintro _ _ ⟨_,_,⟨dk1,rfl,rfl⟩,rfl,rfl⟩
  show G prog κ _ _ _ _ ([(27,.pointer (some ⟨dk1,0,none⟩)),(26,.slice la ln lc),(24,.bool (decide (¬((ln:Int)<=500)))),(23,.bool (decide ((ln:Int)<=500))),(22,.slice la ln lc),(4,.bool false),(0,.slice la ln lc),(1,.int .u8 m0)]:Env) (e8 dk1 [.slice la ln lc,e7 0] 125::I)
  have hi0:(0:Int)<=0:=Int.le_refl _
  refine Ga C (Af (Ah (Gm C (G.e (Ao call19 C C (Next_ok (by repeat (first|exact AtF.head _ _|apply AtF.tail)) (Bh hl) om om)) ?_))))
  rintro _ _ ⟨_,_,⟨x2,i3,rfl,hx2,hi3,rfl⟩,rfl,rfl⟩
  show G prog κ _ _ _ _ ([(29,e7 x2),(28,.pointer (some ⟨dk1,0,none⟩)),(5,.pointer (some ⟨dk1,0,none⟩)),(27,.pointer (some ⟨dk1,0,none⟩)),(26,.slice la ln lc),(24,.bool (decide (¬((ln:Int)<=500)))),(23,.bool (decide ((ln:Int)<=500))),(22,.slice la ln lc),(4,.bool false),(0,.slice la ln lc),(1,.int .u8 m0)]:Env) (e8 dk1 [.slice la ln lc,e7 i3] 125::I)
  refine Gr (Rad C C) (Ga C ?_)
  generalize hnn:2+x2=nn
  have hn2:2<=nn/\nn<=6:=by omega
  refine Af (Ah (Gm C (Gm C (G.e (Ao call20 C C (MkEvents_at (by repeat (first|exact AtF.head _ _|apply AtF.tail)) (λ_=>B5 hl A0) om  om om)) ?_))))
  rintro _ _ ⟨_,_,⟨⟨ad4,cp5,es6,i7⟩,⟨⟨rfl,hses6⟩,hi7⟩,rfl⟩,rfl,rfl⟩
  show G prog κ _ _ _ _ ([(33,.slice ad4 es6.length cp5),(32,e7 nn),(31,.pointer (some ⟨dk1,0,none⟩)),(6,e7 nn),(30,e7 nn),(29,e7 x2),(28,.pointer (some ⟨dk1,0,none⟩)),(5,.pointer (some ⟨dk1,0,none⟩)),(27,.pointer (some ⟨dk1,0,none⟩)),(26,.slice la ln lc),(24,.bool (decide (¬((ln:Int)<=500)))),(23,.bool (decide ((ln:Int)<=500))),(22,.slice la ln lc),(4,.bool false),(0,.slice la ln lc),(1,.int .u8 m0)]:Env) (vc 108 (.slice ad4 es6.length cp5) (es6)::e8 dk1 [.slice la ln lc,e7 i7] 125::I)
  have hi7:0<=i7:=hi7
  dsimp only at hses6
  refine Gm C (G.e (Ao call21 C C (MkWindowV_at (by repeat (first|exact AtF.head _ _|apply AtF.tail)) (λ_=>B5 hl A0) om  )) ?_)
  rintro _ _ ⟨_,_,⟨⟨kd8,wd9,mo10,i11⟩,⟨⟨rfl,hwkd8⟩,hi11⟩,rfl⟩,rfl,rfl⟩
  show G prog κ _ _ _ _ ([(35,.agg #[e7 kd8,e7 wd9,e7 mo10]),(34,.pointer (some ⟨dk1,0,none⟩)),(33,.slice ad4 es6.length cp5),(32,e7 nn),(31,.pointer (some ⟨dk1,0,none⟩)),(6,e7 nn),(30,e7 nn),(29,e7 x2),(28,.pointer (some ⟨dk1,0,none⟩)),(5,.pointer (some ⟨dk1,0,none⟩)),(27,.pointer (some ⟨dk1,0,none⟩)),(26,.slice la ln lc),(24,.bool (decide (¬((ln:Int)<=500)))),(23,.bool (decide ((ln:Int)<=500))),(22,.slice la ln lc),(4,.bool false),(0,.slice la ln lc),(1,.int .u8 m0)]:Env) (vc 108 (.slice ad4 es6.length cp5) (es6)::e8 dk1 [.slice la ln lc,e7 i11] 125::I)
  have hi11:0<=i11:=hi11
  refine Ge1 (A8 ty31 C) λb12=>Ga C (Ge0 (Es3_3 ty31) ?_)
  have hH:HistOk nn kd8 wd9 mo10 es6:=⟨hses6.1.st om om,hwkd8⟩
  have hel:es6.length<=19:=by omega
  have hH0:=hist_nil hH
  refine Af (Aq (S5 7 8 6 5 1 C C C C C) (Ah (Gm C (Gm C (G.e (Ao call22 C C (Cm (J:=e8 dk1 [.slice la ln lc,e7 i11] 125::e8 b12 [e7 kd8,e7 wd9,e7 mo10] 31::vc 108 (.slice ad4 es6.length cp5) (es6)::I) B4 (MkAlarms_ok (Bh hl) om om))) ?_)))))
  rintro _ _ ⟨_,_,⟨ad13,cp14,als15,i16,rfl,hokals15,hlnals15,hi16,rfl⟩,rfl,rfl⟩
  refine G.fit (J:=vc 42 (.slice ad13 als15.length cp14) (als15)::e8 dk1 [.slice la ln lc,e7 i16] 125::e8 b12 [e7 kd8,e7 wd9,e7 mo10] 31::vc 108 (.slice ad4 es6.length cp5) (es6)::(ownR 3 (alR als15)++I)) (Fit.perm (List.Perm.cons _ (perm_fr (A:=ownR 3 (alR als15)) (L:=[e8 dk1 [.slice la ln lc,e7 i16] 125,e8 b12 [e7 kd8,e7 wd9,e7 mo10] 31,vc 108 (.slice ad4 es6.length cp5) es6]) (T:=I)))) ?_
  show G prog κ _ _ _ _ ([(38,.slice ad13 als15.length cp14),(37,e7 nn),(36,.pointer (some ⟨dk1,0,none⟩)),(7,.slice ad4 es6.length cp5),(8,.pointer (some ⟨b12,0,none⟩)),(6,e7 nn),(5,.pointer (some ⟨dk1,0,none⟩)),(1,.int .u8 m0)]:Env) (vc 42 (.slice ad13 als15.length cp14) (als15)::e8 dk1 [.slice la ln lc,e7 i16] 125::e8 b12 [e7 kd8,e7 wd9,e7 mo10] 31::vc 108 (.slice ad4 es6.length cp5) (es6)::(ownR 3 (alR als15)++I))
  refine Ga C (Af (Ah (Gm C (Gm C (Gl3 ty31 ?_)))))
  refine Gm C (G.e (Ao call23 C C (Watch_ok (nd:=nn) (kd:=kd8) (wd:=wd9) (mo:=mo10) (es:=es6) (als:=als15) (ea:=ad4) (ec:=cp5) (aa:=ad13) (ac:=cp14) Bg Bg (λx hx=>B5 (alR_held (I:=I) x hx) A0) hH hel hokals15 (by first|omega|exact Nat.le_of_ble_eq_true C) (Cg hT A0))) ?_)
  rintro _ _ ⟨_,_,⟨ad17,cp18,rfl,rfl⟩,rfl,rfl⟩
  refine Gm C (Gr (A2 C C) (Gr (A2 C C) (Ga C (Ga C ?_))))
  have hRl:=rings_len (als:=als15) hH hel om
  have hRs:=fun (T:Int) (hT:0<=T/\T<=1048576)=>states_ok (als:=als15) hH hT
  generalize ringsV nn kd8 wd9 mo10 es6 als15=R at hRl hRs ⊢
  refine Af (Aq (S7 11 10 9 7 8 6 1 C C C C C C C) (Au (Ah (Gm C (Gr (Be C C) (Af (A6 C (λc48=>?_) (λc48=>?_))))))))
  ·exact absurd rfl c48
  ·refine Ay (Aj (Au (Ah (Gm C (Gm C (Gl3 ty31 ?_))))))
   refine G.e (Ao call39 C C (Times43_ok (nd:=nn) (kd:=kd8) (wd:=wd9) (mo:=mo10) Bg hH hel)) ?_
   rintro _ _ ⟨_,_,⟨ad19,cp20,rfl,rfl⟩,rfl,rfl⟩
   refine Gm C (Gr (Runs.rem C C om) (Gr (Runs.convI D6 B6 C (by unfold InR;omega)) (Ge1 (B0 (α:=Int) (cs:=[_,_]) (xs:=[0,Int.tmod m0 60]) Ac ef C C dc dc C C C C) λad21=>?_)))
   refine Ge2 (B1 (α:=Int) (e:=3) (xs:=timesR kd8 wd9 mo10 es6) (ys:=([0,Int.tmod m0 60]:List Int)) Ac ef C C C mm Bg (by have:=timesR_len hH hel;simp only [List.length_cons,List.length_nil];omega) dc C (λ_ _=>am)) λad22 cp23=>?_
   refine Gr (Bm Ac C) ?_
   have hTl:((timesR kd8 wd9 mo10 es6)++([0,Int.tmod m0 60]:List Int)).length<=59:=by have:=timesR_len hH hel;simp only [List.length_append,List.length_cons,List.length_nil];omega
   have hTT:∀t∈((timesR kd8 wd9 mo10 es6)++([0,Int.tmod m0 60]:List Int)),0<=t/\t<=1048576:=times_app hH ht60
   generalize (timesR kd8 wd9 mo10 es6)++([0,Int.tmod m0 60]:List Int)=TT at hTl hTT ⊢
   refine Gm C (Af (Aq (S8 59 58 57 10 9 7 8 6 C C C C C C C C) (A4 (Bu (σ:=Nat) (λs=>([(6,e7 nn),(7,.slice ad4 es6.length cp5),(8,.pointer (some ⟨b12,0,none⟩)),(9,.slice ad13 als15.length cp14),(10,.slice ad17 R.length cp18),(57,.slice ad22 TT.length cp23),(58,e7 ((TT.length:Nat):Int)),(59,e7 ((s:Nat):Int))]:Env)) (λs=>vc 3 (.slice ad21 2 2) (([0,Int.tmod m0 60]:List Int))::vc 3 (.slice ad22 TT.length cp23) (TT)::vc 44 (.slice ad17 R.length cp18) (R)::vc 42 (.slice ad13 als15.length cp14) (als15)::e8 dk1 [.slice la ln lc,e7 i16] 125::e8 b12 [e7 kd8,e7 wd9,e7 mo10] 31::vc 108 (.slice ad4 es6.length cp5) (es6)::(ownR 3 (alR als15)++I)) (λs=>(s<=TT.length)) (λs=>TT.length - s) 0 (show ((0:Nat)<=TT.length) from om) (Aa C (Aa C (Aa C (Aa C (Aa C (Aa C (Aa C (Aa B9 Bj)))))))) (show Fit κ _ (vc 3 (.slice ad21 2 2) (([0,Int.tmod m0 60]:List Int))::vc 3 (.slice ad22 TT.length cp23) (TT)::vc 44 (.slice ad17 R.length cp18) (R)::vc 42 (.slice ad13 als15.length cp14) (als15)::e8 dk1 [.slice la ln lc,e7 i16] 125::e8 b12 [e7 kd8,e7 wd9,e7 mo10] 31::vc 108 (.slice ad4 es6.length cp5) (es6)::(ownR 3 (alR als15)++I)) from A5) ?_))))
   rintro k hp
   have hk:=hp
   refine Ah (Gr (A9 C C) (Af (Au (A6 C (λc60=>?_) (λc60=>?_)))))
   ·refine Ay (Aj (Au (A4 (Ah (Gr (A3 (α:=Int) (xs:=TT) Ac ef C C Bg om om) (Gr (Bz (xs:=TT) ef C Bg om om) (Ga C (Af (Ah (Gm C (Gm C (Gr (Bm Cn C) (Gm C (G.e (Ao call32 C C (State_ok Bg (n:=als15.length) om (e_ TT k) (hRs (e_ TT k) (hTT _ (Ca om om))).2.2)) ?_))))))))))))))
    rintro _ _ ⟨_,_,⟨ad24,cp25,rfl,rfl⟩,rfl,rfl⟩
    refine Gm C (Gr (A2 C C) (Gr (A2 C C) (Ga C (Ga C ?_))))
    have hsv:=hRs (e_ TT k) (hTT _ (Ca om om))
    have hsv1:=hsv.1
    refine Af (Aq (S11 15 14 13 6 7 8 9 10 57 58 59 C C C C C C C C C C C) (Ah (Gm C (Gm C (Gl3 ty31 ?_)))))
    refine Gm C (Gc2 (Ao call40 C C (At43_ok (nd:=nn) (kd:=kd8) (wd:=wd9) (mo:=mo10) Bg hH hel (T:=e_ TT k) (hTT _ (Ca om om)))) λad26 cp27=>?_)
    refine Gm C (Gr (A2 C C) (Gr (A2 C C) (Ge1 (A8 ty48 C) λb28=>Ge0 (Cd ty48) ?_)))
    refine Ga C (Af (Aq (S11 16 15 14 6 7 8 9 10 57 58 59 C C C C C C C C C C C) (Au (Ah (Gm C (Gr (Be C C) (Gm C (Ba (d:=81) C (λg81=>?_) (λg81=>?_)))))))))
    ·exact absurd rfl g81
    ·refine e9 (Ad C) (e9 (Bm Bw C) (e9 (Ad C) (e9 (Bm Cn C) (e9 (Be C C) (Gr (Al C C) (Af (Aq (S11 87 16 14 6 7 8 9 10 57 58 59 C C C C C C C C C C C) (A6 C (λc87=>?_) (λc87=>?_)))))))))
     ·omega
     ·refine Ay (Aj (Ah (Gm C (Gr (Bm Cn C) (Gm C (Af (Aq (S13 90 89 88 16 14 6 7 8 9 10 57 58 59 C C C C C C C C C C C C C) (A4 (Bu (σ:=Nat) (λs=>([(6,e7 nn),(7,.slice ad4 es6.length cp5),(8,.pointer (some ⟨b12,0,none⟩)),(9,.slice ad13 als15.length cp14),(10,.slice ad17 R.length cp18),(14,.slice ad24 ((statS (e_ TT k) (replicate als15.length false,replicate als15.length false) R).2).length cp25),(16,.pointer (some ⟨b28,0,none⟩)),(57,.slice ad22 TT.length cp23),(58,e7 ((TT.length:Nat):Int)),(59,e7 ((k:Int))),(88,.slice ad13 als15.length cp14),(89,e7 ((als15.length:Nat):Int)),(90,e7 ((s:Nat):Int))]:Env)) (λs=>e8 b28 [e7 nn,.slice ad26 (atG kd8 wd9 mo10 es6 (e_ TT k)).length cp27] 48::vc 135 (.slice ad26 (atG kd8 wd9 mo10 es6 (e_ TT k)).length cp27) (atG kd8 wd9 mo10 es6 (e_ TT k))::vc 4 (.slice ad24 ((statS (e_ TT k) (replicate als15.length false,replicate als15.length false) R).2).length cp25) ((statS (e_ TT k) (replicate als15.length false,replicate als15.length false) R).2)::vc 3 (.slice ad21 2 2) (([0,Int.tmod m0 60]:List Int))::vc 3 (.slice ad22 TT.length cp23) (TT)::vc 44 (.slice ad17 R.length cp18) (R)::vc 42 (.slice ad13 als15.length cp14) (als15)::e8 dk1 [.slice la ln lc,e7 i16] 125::e8 b12 [e7 kd8,e7 wd9,e7 mo10] 31::vc 108 (.slice ad4 es6.length cp5) (es6)::(ownR 3 (alR als15)++I)) (λs=>(s<=als15.length)) (λs=>als15.length - s) 0 (show ((0:Nat)<=als15.length) from om) (Aa C (Aa C (Aa C (Aa C (Aa C (Aa C (Aa C (Aa C (Aa C (Aa C (Aa C (Aa C (Aa B9 Bj))))))))))))) (show Fit κ _ (e8 b28 [e7 nn,.slice ad26 (atG kd8 wd9 mo10 es6 (e_ TT k)).length cp27] 48::vc 135 (.slice ad26 (atG kd8 wd9 mo10 es6 (e_ TT k)).length cp27) (atG kd8 wd9 mo10 es6 (e_ TT k))::vc 4 (.slice ad24 ((statS (e_ TT k) (replicate als15.length false,replicate als15.length false) R).2).length cp25) ((statS (e_ TT k) (replicate als15.length false,replicate als15.length false) R).2)::vc 3 (.slice ad21 2 2) (([0,Int.tmod m0 60]:List Int))::vc 3 (.slice ad22 TT.length cp23) (TT)::vc 44 (.slice ad17 R.length cp18) (R)::vc 42 (.slice ad13 als15.length cp14) (als15)::e8 dk1 [.slice la ln lc,e7 i16] 125::e8 b12 [e7 kd8,e7 wd9,e7 mo10] 31::vc 108 (.slice ad4 es6.length cp5) (es6)::(ownR 3 (alR als15)++I)) from A5) ?_)))))))))
      rintro k2 hp
      have hk2:=hp
      refine Ah (Gr (A9 C C) (Af (Aq (S14 91 6 7 8 9 10 14 16 57 58 59 88 89 90 C C C C C C C C C C C C C C) (Au (A6 C (λc91=>?_) (λc91=>?_))))))
      ·refine Ay (Aj (Aq (S13 6 7 8 9 10 14 16 57 58 59 88 89 90 C C C C C C C C C C C C C) (Au (A4 (Ah (Gm C (Gr (A3 (α:=AlV) (xs:=als15) Cn ty42 C C Bg om om) (Gr (Bp (α:=AlV) (xs:=als15) ty42 C Bg om om) (Ge1 (A8 ty42 C) λb29=>Ga C (Ge0 (C5 ty42) ?_))))))))))
       refine Af (Aq (S15 18 19 6 7 8 9 10 14 16 57 58 59 88 89 90 C C C C C C C C C C C C C C C) (Ah (Gl2 ty48 ?_)))
       refine Gl6 ty42 ?_
       refine G.e (Ao call29 C C (AHolds_ok (nd:=nn) (x:=(e_ als15 k2)) Bg (B5 (alR_held (I:=I) (e_ als15 k2) (Ca om om)) A0) (hH.graph _) (hokals15 _ (Ca om om)) (Cg hT A0))) ?_
       rintro _ _ ⟨_,_,⟨rfl,rfl⟩,rfl,rfl⟩
       refine Gm C (Gr (A2 C C) (Gr (A2 C C) (Ga C (Ga C (Af (Aq (S16 21 20 18 6 7 8 9 10 14 16 57 58 59 88 89 90 C C C C C C C C C C C C C C C C) (Ah (Gm C (Gr (Be C C) (Gm C (Ba (d:=103) C (λg103=>?_) (λg103=>?_))))))))))))
       ·exact absurd rfl g103
       ·refine e9 (Ad C) (e9 (Ad C) (e9 (Ad C) (e9 (A3 (α:=Bool) (xs:=(statS (e_ TT k) (replicate als15.length false,replicate als15.length false) R).2) Bw ty4 C C Bg om om) (e9 (Ef (xs:=(statS (e_ TT k) (replicate als15.length false,replicate als15.length false) R).2) ty4 C Bg om om) (e9 (Runs.neqb D7 C C) (Gr (Al C C) (Af (Aq (S14 110 6 7 8 9 10 14 16 57 58 59 88 89 90 C C C C C C C C C C C C C C) (A6 C (λc110=>?_) (λc110=>?_))))))))))
        ·exact absurd (hsv.2.1 k2 om).symm c110
        ·exact Ay (Ak (Aj (Aq (S13 6 7 8 9 10 14 16 57 58 59 88 89 90 C C C C C C C C C C C C C) (Ax (Gr (Rad C C) (Gm C (Bd (B2 ((k2+1)) om))))))))
      ·exact Bs (Ap (Ap (A7 (Ak (Aj (Aq (S8 6 7 8 9 10 57 58 59 C C C C C C C C) (Ax (Gr (Rad C C) (Gm C (Bd (B2 ((k+1)) om)))))))))))
   ·refine Bs (Ap (Ap (A7 (Aj (Ah (G.e (Ao call17 C C (Awake44_ok (Cg hT A0))) ?_))))))
    rintro _ _ ⟨_,_,⟨rfl,rfl⟩,rfl,rfl⟩
    exact Ga C (Af (Aw (A1 C C I A0 ⟨rfl,rfl⟩)))
end Go.Sl
namespace Go.Sl
open Go.ChangeShapes Go.WideShapes Go.ChangeAt Go.RowKit Go.Deep
section
variable {κ:Ctx}{w w':World}{I:List Item}
theorem old_cell(hs:Sep κ w' I)(hm:old w.heap.size w∈I){b o:Nat}{u:Value}(hc:w.cell? ⟨b,o,none⟩=some u):w'.cell? ⟨b,o,none⟩=some u:=by
 have hok:∀k,k<w.heap.size->w'.heap[k]? = w.heap[k]? :=(hs.ok _ hm).1
 have hb:b<w.heap.size:=by
  refine Nat.not_le.1 λh=>?_
  simp [World.cell?,Array.getElem?_eq_none h] at hc
 have:=hok b hb
 simp only [World.cell?,this] at hc ⊢
 exact hc
def SlW{α:Type}[Enc α](w:World)(v:Value)(xs:List α):Prop:=slOk w (Enc.sz α) v xs.length (cells xs)
theorem SlW.sl{α:Type}[Enc α]{v:Value}{xs:List α}(h:SlW w v xs)(hm:old w.heap.size w∈I):Sl κ I v xs:=λw' hs=>by
 obtain ⟨a,cap,hv,h1,h2,h3,h4⟩:=h
 refine ⟨a,cap,hv,h1,h2,h3,λhc=>?_⟩
 obtain ⟨b,off,ha,hr⟩:=h4 hc
 exact ⟨b,off,ha,λj u hj=>old_cell hs hm (hr j u hj)⟩
end
section
variable {P:Program}{w:World}{r:Reach}{b0:Nat}{t:TypeId}{H:Type}{enc:TypeId×Value->H}{base:Nat}{spare:Nat->Bool}{held:Bool}
theorem spot_none{e:TypeId}{a:Addr}{len cap:Nat}(ht:P.underlying t=some (.slice e))(h:Cell.okWide P w r b0 t (.slice (some a) len cap)):a.spot=none:=by
 simp only [Cell.okWide,Cell.ok,ht] at h
 exact h.2.2.2.1
theorem InR_of{n:Int}(h:(Lit.int .i64 n).wf=true):InR n:=by
 simp only [Lit.wf,Bool.and_eq_true,decide_eq_true_eq] at h
 exact h
def Light(P:Program)(t:TypeId)(d:DataW H):Prop:=∀n∈d.weights P t,n<=reachBytes
theorem light_arg{ts:List TypeId}{ds:List (DataW H)}(h:(DataW.weightsEach P ts ds).all (· <= reachBytes)=true){j:Nat}{d:DataW H}(ht:ts[j]? = some t)(hd:ds[j]? = some d):Light P t d:=λn hn=>by
 have:=List.all_eq_true.1 h _ (DataW.weights_mem_each ht hd n hn)
 simpa using this
theorem light_slice{e:TypeId}{es sp:List (DataW H)}(ht:P.underlying t=some (.slice e))(h:Light P t (.slice es sp)):es.length*P.bytesOf e<=140737488351232:=by
 have h1:=h ((es.length+sp.length)*P.bytesOf e) (by simp [DataW.weights,ht])
 have h2:es.length*P.bytesOf e<=(es.length+sp.length)*P.bytesOf e:=Nat.mul_le_mul_right _ (by omega)
 simp only [reachBytes] at h1
 omega
theorem addr_eta{a:Addr}(h:a.spot=none):a=⟨a.block,a.off,none⟩:=by cases a;simp_all
theorem in_ints{e:TypeId}{v:Value}{fuel:Nat}{x:DataW H×List MemPlace}(ht:P.underlying t=some (.slice e))(he:P.underlying e=some (.int .i64))(hc:P.cellsOf e=1)
  (hv:Cell.okWide P w r b0 t v) (h:DataW.trod enc P w base spare held fuel t [v]=some x) (hw:Light P t x.1):∃(a:Option Addr) (c:Nat) (xs:List Int),v = .slice a xs.length c/\SlW w (.slice a xs.length c) xs/\(∀n∈xs,InR n)/\xs.length*P.bytesOf e<=140737488351232:=by
 rcases open_ints ht he hc h with ⟨hcs,_⟩|⟨a,l,c,zs,hcs,_,hl,hm,hz,hx,hcell,hwz⟩
 ·obtain rfl:v = .slice none 0 0:=by simpa using hcs
  exact ⟨none,0,[],rfl,⟨none,0,rfl,by simp [cells],Nat.le_refl _,by simp,λh=>by omega⟩,by simp,by simp⟩
 ·obtain rfl:v = .slice (some a) l c:=by simpa using hcs
  have hsp:=spot_none ht hv
  have hlen:l<=zs.length:=by rw [hz];split<;>omega
  have hxl:(zs.take l).length=l:=by rw [List.length_take];omega
  refine ⟨some a,c,zs.take l,by rw [hxl],⟨some a,c,rfl,cells_length _,by rw [hxl];exact hl,hm,λhc0=>⟨a.block,a.off,by rw [←addr_eta hsp],λj u hj=>?_⟩⟩,λn hn=>InR_of (hwz n (List.mem_of_mem_take hn)),by
   rw [hx] at hw
   have:=light_slice ht hw
   simpa [lits] using this⟩
  have hjl:j<l:=by
   have:=(List.getElem?_eq_some_iff.1 hj).1
   rw [cells_length,hxl] at this
   have e1:Enc.sz Int=1:=rfl
   rw [e1] at this;omega
  have h1:=cells_get (zs.take l) j 0 (by omega) (by decide)
  have e1:j*Enc.sz Int+0=j:=by show j*1+0=j;omega
  rw [e1] at h1
  rw [h1] at hj
  have h2:=hcell j (by omega)
  rw [addr_eta hsp,addr_add] at h2
  have h3:u=e7 (zs.getD j 0):=by
   have h4:some (e7 ((zs.take l)[j]'(by omega)))=some u:=hj
   simp only [Option.some.injEq] at h4
   rw [←h4]
   simp [List.getD_eq_getElem?_getD,List.getElem?_eq_getElem (show j<zs.length by omega)]
  rw [h3];exact h2
theorem arg_cell{v:Value}{d:DataW H}{ps:List MemPlace}{e:TypeId}(ht:P.underlying t=some (.slice e))(hv:Value.okWide P w r b0 t v)(h:DataW.Trod enc P w base spare held t v d ps):Cell.okWide P w r b0 t v/\∃fuel,DataW.trod enc P w base spare held fuel t [v]=some (d,ps):=by
 obtain ⟨a,len,cap,rfl⟩:=okWide_slice ht hv
 simp only [Value.okWide,ht] at hv
 obtain ⟨fuel,hf⟩:=h
 exact ⟨hv,fuel,by simpa [Value.cells] using hf⟩
theorem joined_mk{P:Program}{f:FuncId}{fn:Func}{s:ChangeSpec}{c:OpenClaim}(h1:(c.wf (OpenSpec.ofChange s))=true)(h2:(laidOutB P)=true)(h3:(mapsRowed P)=true)(h4:(fn.params.all (P.readableRec ·))=true)(h5:(namedTie P c.named s.vars)=true)(h6:((c.stops==[]))=true)(h7:((P.stops==[]))=true)(h8:((c.knobs==[]))=true)(h9:((P.stopKnobs==[]))=true)(h10:((c.inPlace==P.inPlace f))=true)(h11:((c.unfollowed==P.unfollowed f))=true)(h12:((c.recurses==P.recurses f))=true)(h13:((c.named==P.varsNamed f))=true)(h14:((c.maps==(fn.params.toList++s.plain.varTypes P).any (P.mapsRec ·)))=true)(h15:((c.ifaces==(fn.params.toList++s.plain.varTypes P).any (P.ifacesRec ·)))=true)(h16:((c.mapsOut==P.mapsAmong fn.resultTypes.toList))=true)(h17:((c.loops==(fn.params.toList++s.plain.varTypes P).any (P.loopsFrom ·)))=true)(h18:((c.wideKeys==(fn.params.toList++s.plain.varTypes P++fn.resultTypes.toList).any (P.wideKeysFrom ·)))=true)(h19:(s.vars.all (P.varReadable ·))=true)(h20:(fn.resultTypes.all (λt=>P.readableRec t&&decide (t<P.types.size)))=true)(h21:((c.ifacesOut==fn.resultTypes.toList.any (P.ifacesRec ·)))=true)(h22:((c.loopsOut==fn.resultTypes.toList.any (P.loopsFrom ·)))=true)(h23:((c.plainKeys==P.plainKeys))=true)(h24:(c.shortTexts.isNone)=true)(h25:(P.stopsHeard)=true)(h26:(P.mayEnter)=true)(h27:((c.lifted==P.liftsFinal))=true)(h28:((P.make==some c.make))=true)(h29:((c.kinds==(if c.domain.isEmpty then [] else fn.params.toList.map λt=>match P.underlying t with |some (.int k)=>some k|_=>none)))=true)(h30:((c.pinned==c.pinnedBy))=true)(h31:((c.veiled==(fn.params.toList++s.plain.varTypes P++fn.resultTypes.toList).any (P.veiledRec ·)))=true)(h32:(c.veiledFits P fn.params.toList (fn.params.toList++s.plain.varTypes P++fn.resultTypes.toList))=true):joinedFacts P f fn s c=true:=by
 unfold joinedFacts
 exact (Bool.and_eq_true_iff.2 ⟨(Bool.and_eq_true_iff.2 ⟨(Bool.and_eq_true_iff.2 ⟨(Bool.and_eq_true_iff.2 ⟨(Bool.and_eq_true_iff.2 ⟨(Bool.and_eq_true_iff.2 ⟨(Bool.and_eq_true_iff.2 ⟨(Bool.and_eq_true_iff.2 ⟨(Bool.and_eq_true_iff.2 ⟨(Bool.and_eq_true_iff.2 ⟨(Bool.and_eq_true_iff.2 ⟨(Bool.and_eq_true_iff.2 ⟨(Bool.and_eq_true_iff.2 ⟨(Bool.and_eq_true_iff.2 ⟨(Bool.and_eq_true_iff.2 ⟨(Bool.and_eq_true_iff.2 ⟨(Bool.and_eq_true_iff.2 ⟨(Bool.and_eq_true_iff.2 ⟨(Bool.and_eq_true_iff.2 ⟨(Bool.and_eq_true_iff.2 ⟨(Bool.and_eq_true_iff.2 ⟨(Bool.and_eq_true_iff.2 ⟨(Bool.and_eq_true_iff.2 ⟨(Bool.and_eq_true_iff.2 ⟨(Bool.and_eq_true_iff.2 ⟨(Bool.and_eq_true_iff.2 ⟨(Bool.and_eq_true_iff.2 ⟨(Bool.and_eq_true_iff.2 ⟨(Bool.and_eq_true_iff.2 ⟨(Bool.and_eq_true_iff.2 ⟨(Bool.and_eq_true_iff.2 ⟨h1,h2⟩),h3⟩),h4⟩),h5⟩),h6⟩),h7⟩),h8⟩),h9⟩),h10⟩),h11⟩),h12⟩),h13⟩),h14⟩),h15⟩),h16⟩),h17⟩),h18⟩),h19⟩),h20⟩),h21⟩),h22⟩),h23⟩),h24⟩),h25⟩),h26⟩),h27⟩),h28⟩),h29⟩),h30⟩),h31⟩),h32⟩)
theorem calls_below{f:FuncId}{args:List Value}(h:ep P ⟨w.os,w.tape,w.output,w.drawn⟩ f args [old w.heap.size w] λr J=>r = .bool true/\[old w.heap.size w]=J) :
  Calls P f args.toArray w λe w'=>e = .returned (.bool true)/\Below w.heap.size w w':=
 (h w (Sep.begin w)).mono λe w' ⟨v,J,he,⟨hv,hJ⟩,hs⟩=>by
  subst hv hJ
  exact ⟨he,hs.below List.mem_cons_self⟩
end
end Go.Sl
