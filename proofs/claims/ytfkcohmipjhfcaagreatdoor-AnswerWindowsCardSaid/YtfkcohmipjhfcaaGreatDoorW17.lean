/- A part of the proofs of statements of this seat: contracts of functions, and the plain laws that they lean on. No conditions. -/
import Derived.Test.YtfkcohmipjhfcaaGreatDoorW16
set_option linter.unusedVariables false
set_option linter.unusedSimpArgs false
set_option linter.unusedSectionVars false
open Go.Proofs.Tryz (prog)
namespace Go.Sl
open Go.Proofs
set_option maxRecDepth 4000
structure MgI (za zb:List Int) (i j:Nat) (out:List Int):Prop where
 hi:i<=za.length
 hj:j<=zb.length
 out:out=(za.take i).filter λx=>decide (x∉zb)
 lo:∀p:Nat,p<i->j<zb.length->e_ za p<e_ zb j
 up:∀q:Nat,q<j->i<za.length->e_ zb q<e_ za i
theorem ascI_at{zs:List Int}(h:zs.Pairwise (· < ·)){p q:Nat}(hpq:p<q)(hq:q<zs.length):e_ zs p<e_ zs q:=by
 rw [Db zs p om,Db zs q hq]
 exact (List.pairwise_iff_getElem.1 h) p q om hq hpq
theorem mem_atN{zs:List Int}{x:Int}(h:x∈zs):∃q:Nat,q<zs.length/\x=e_ zs q:=by
 obtain ⟨q,hq,rfl⟩:=List.getElem_of_mem h
 exact ⟨q,hq,(Db zs q hq).symm⟩
section
variable {za zb:List Int}{i j:Nat}{out:List Int}
theorem MgI.start:MgI za zb 0 0 []:=⟨Nat.zero_le _,Nat.zero_le _,rfl,λp h=>absurd h (Nat.not_lt_zero _),λq h=>absurd h (Nat.not_lt_zero _)⟩
theorem MgI.one(h:MgI za zb i j out)(ha:za.Pairwise (· < ·))(hb:zb.Pairwise (· < ·))(hi:i<za.length)(hc:j<zb.length->e_ za i<e_ zb j):MgI za zb (i+1) j (out++[e_ za i]):=by
 refine ⟨by omega,h.hj,?_,λp hp hj=>?_,λq hq hi2=>?_⟩
 ·have hn:e_ za i∉zb:=λhm=>by
   obtain ⟨q,hq,e⟩:=mem_atN hm
   by_cases hqj:q<j
   ·have:=h.up q hqj hi;omega
   ·have h1:=hc om
    by_cases hqe:q=j
    ·rw [hqe] at e;omega
    ·have:=ascI_at hb (show j<q by omega) hq;omega
  rw [Di za i hi,List.filter_append,←h.out]
  simp [List.filter_cons,hn]
 ·by_cases hpi:p=i
  ·rw [hpi];exact hc hj
  ·exact h.lo p om hj
 ·have h1:=h.up q hq hi
  have h2:=ascI_at ha (show i<i+1 by omega) hi2
  omega
theorem MgI.two(h:MgI za zb i j out)(ha:za.Pairwise (· < ·))(hb:zb.Pairwise (· < ·))(hj:j<zb.length)(hc:i<za.length->e_ zb j<e_ za i):MgI za zb i (j+1) out:=by
 refine ⟨h.hi,by omega,h.out,λp hp hj2=>?_,λq hq hi2=>?_⟩
 ·have h1:=h.lo p hp hj
  have h2:=ascI_at hb (show j<j+1 by omega) hj2
  omega
 ·by_cases hqj:q=j
  ·rw [hqj];exact hc hi2
  ·exact h.up q om hi2
theorem MgI.both(h:MgI za zb i j out)(ha:za.Pairwise (· < ·))(hb:zb.Pairwise (· < ·))(hi:i<za.length)(hj:j<zb.length)(he:e_ za i=e_ zb j):MgI za zb (i+1) (j+1) out:=by
 refine ⟨by omega,by omega,?_,λp hp hj2=>?_,λq hq hi2=>?_⟩
 ·have hm:e_ za i∈zb:=by rw [he];exact Cq om om
  rw [Di za i hi,List.filter_append,←h.out]
  simp [List.filter_cons,hm]
 ·have h2:=ascI_at hb (show j<j+1 by omega) hj2
  by_cases hpi:p=i
  ·rw [hpi,he];exact h2
  ·have:=h.lo p om hj;omega
 ·have h2:=ascI_at ha (show i<i+1 by omega) hi2
  by_cases hqj:q=j
  ·rw [hqj,←he];exact h2
  ·have:=h.up q om hi;omega
end
def ascZ(xs:List Int):List Int:=compG (sortZ xs) (sortZ xs).length
theorem ascZ_asc(xs:List Int):(ascZ xs).Pairwise (· < ·):=compZ_asc (sortZ_asc xs)
theorem mem_ascZ{xs:List Int}{x:Int}:x∈ascZ xs↔x∈xs:=(mem_compZ (sortZ_asc xs)).trans mem_sortZ
theorem ascZ_len(xs:List Int):(ascZ xs).length<=xs.length:=Nat.le_trans (compG_len _ _) (Nat.le_of_eq (E7 xs))
def minusZ(xs ys:List Int):List Int:=(ascZ xs).filter λx=>decide (x∉ascZ ys)
theorem minusZ_nil{xs ys:List Int}:(minusZ xs ys).length=0↔∀x∈xs,x∈ys:=by
 unfold minusZ
 rw [List.length_eq_zero_iff,List.filter_eq_nil_iff]
 constructor
 ·intro h x hx
  have:=h x (mem_ascZ.2 hx)
  exact mem_ascZ.1 (Classical.byContradiction λhn=>this (decide_eq_true hn))
 ·intro h x hx hd
  exact of_decide_eq_true hd (mem_ascZ.2 (h x (mem_ascZ.1 hx)))
theorem CompactI_n{κ:Ctx}{I:List Item}{a:Option Addr}{n c:Nat}{xs:List Int}(hn:n=xs.length)(hsz:xs.length<1000000000000):eu prog κ 143 [.slice a n c] (vc 3 (.slice a n c) xs::I) λr J=>r = .slice a (compG xs xs.length).length c/\J=vc 3 (.slice a (compG xs xs.length).length c) (compG xs xs.length)::I:=by
 subst hn;exact CompactI_ok hsz
theorem Minus1_b{κ:Ctx}{I:List Item}(p q:Bool):eu prog κ 236 [.bool p,.bool q] I (λr J=>r = .bool (!q)/\I=J):=by
 refine Ce2 Tryz.func236 C C ?_
 exact Aj (Ga C (Ah (Aj (Gm C (Gr (B8 C) (Ga C (Ah (Az (Ba C C I Ay ⟨rfl,rfl⟩)))))))))
theorem Minus1_d{κ:Ctx}{I:List Item}(p:Bool)(q:Prop)[Decidable q]:eu prog κ 236 [.bool p,.bool (decide q)] I λr J=>r = .bool (decide (¬q))/\I=J:=
 (Minus1_b p (decide q)).mono λr J h=>⟨by rw [h.1,decide_not],h.2⟩
set_option maxHeartbeats 2000000 in
theorem MergedI_ok{κ:Ctx}{I:List Item}{a0 b0:Option Addr}{c0 d0:Nat}{xs ys:List Int}(hl:Sl κ I (.slice a0 xs.length c0) xs)(hm:Sl κ I (.slice b0 ys.length d0) ys)(hx:xs.length<=100000)(hy:ys.length<=100000):eu prog κ 235 [.slice a0 xs.length c0,.slice b0 ys.length d0,.func (.func 236) #[] #[]] I (λr J=>∃a c,r = .slice a (minusZ xs ys).length c/\J=vc 3 (.slice a (minusZ xs ys).length c) (minusZ xs ys)::I):=by
 refine Ce3 Tryz.func235 C C ?_
 refine Aj (Ga C (Ah (Aj (Gm C (Gc2 (Am call284 C C (CloneI (xs:=xs) (Bj hl) om)) λad1 cp2=>?_)))))
 refine Gm C (Gc2 (Am call284 C C (CloneI (xs:=ys) (Bj hm) om)) λad3 cp4=>?_)
 refine Ga C (Ga C (Ah (Aj (Gm C (Gc1 (Am call142 C C (C1 (J:=vc 3 (.slice ad1 xs.length cp2) (xs)::vc 3 (.slice ad3 ys.length cp4) (ys)::I) Bv (sortI_ok om))) ?_)))))
 refine Ah (Aj (Gm C (Gc1 (Am call142 C C (C1 (J:=vc 3 (.slice ad3 ys.length cp4) (ys)::vc 3 (.slice ad1 xs.length cp2) (sortZ xs)::I) Bv (sortI_ok om))) ?_)))
 refine Ah (Av (S3 1 0 2 C C C) (Aj (Gm C (G.e (Am call143 C C (C1 (J:=vc 3 (.slice ad1 xs.length cp2) (sortZ xs)::vc 3 (.slice ad3 ys.length cp4) (sortZ ys)::I) Bv (CompactI_n (xs:=sortZ xs) (by first|rfl|exact (E7 _).symm) (by first|omega|(rw [E7];omega))))) ?_))))
 rintro _ _ ⟨_,_,⟨rfl,rfl⟩,rfl,rfl⟩
 refine Gm C (G.e (Am call143 C C (C1 (J:=vc 3 (.slice ad3 ys.length cp4) (sortZ ys)::vc 3 (.slice ad1 (ascZ xs).length cp2) (ascZ xs)::I) Bv (CompactI_n (xs:=sortZ ys) (by first|rfl|exact (E7 _).symm) (by first|omega|(rw [E7];omega))))) ?_)
 rintro _ _ ⟨_,_,⟨rfl,rfl⟩,rfl,rfl⟩
 show G prog κ _ _ _ _ ([(22,.slice ad3 (ascZ ys).length cp4),(21,.slice ad3 ys.length cp4),(20,.slice ad1 (ascZ xs).length cp2),(19,.slice ad1 xs.length cp2),(1,.slice ad3 ys.length cp4),(0,.slice ad1 xs.length cp2),(2,.func (.func 236) #[] #[])]:Env) (vc 3 (.slice ad3 (ascZ ys).length cp4) (ascZ ys)::vc 3 (.slice ad1 (ascZ xs).length cp2) (ascZ xs)::I)
 refine Ga C (Ga C (Ah (Aj (Ga C ?_))))
 generalize hza:ascZ xs=za
 generalize hzb:ascZ ys=zb
 have hzal:za.length<=xs.length:=by rw [←hza];exact ascZ_len xs
 have hzbl:zb.length<=ys.length:=by rw [←hzb];exact ascZ_len ys
 have hasa:za.Pairwise (· < ·):=by rw [←hza];exact ascZ_asc xs
 have hasb:zb.Pairwise (· < ·):=by rw [←hzb];exact ascZ_asc ys
 have he0:Sl κ [vc 3 (.slice ad1 za.length cp2) za] (.slice ad1 (List.drop 0 za).length cp2) (List.drop 0 za):=Fo List.mem_cons_self
 have hf0:Sl κ [vc 3 (.slice ad3 zb.length cp4) zb] (.slice ad3 (List.drop 0 zb).length cp4) (List.drop 0 zb):=Fo List.mem_cons_self
 refine Ah (Au (A6 (Ca (σ:=Nat×Nat×(Option Addr)×Nat×(Option Addr)×Nat×(Option Addr)×Nat×(List Int)) (λs=>([(0,.slice s.2.2.1 (List.drop s.1 za).length s.2.2.2.1),(1,.slice s.2.2.2.2.1 (List.drop s.2.1 zb).length s.2.2.2.2.2.1),(2,.func (.func 236) #[] #[]),(7,.slice s.2.2.2.2.2.2.1 s.2.2.2.2.2.2.2.2.length s.2.2.2.2.2.2.2.1)]:Env)) (λs=>vc 3 (.slice s.2.2.2.2.2.2.1 s.2.2.2.2.2.2.2.2.length s.2.2.2.2.2.2.2.1) (s.2.2.2.2.2.2.2.2)::vc 3 (.slice ad3 zb.length cp4) (zb)::vc 3 (.slice ad1 za.length cp2) (za)::I) (λs=>(MgI za zb s.1 s.2.1 s.2.2.2.2.2.2.2.2)/\(Sl κ [vc 3 (.slice ad1 za.length cp2) za] (.slice s.2.2.1 (List.drop s.1 za).length s.2.2.2.1) (List.drop s.1 za))/\(Sl κ [vc 3 (.slice ad3 zb.length cp4) zb] (.slice s.2.2.2.2.1 (List.drop s.2.1 zb).length s.2.2.2.2.2.1) (List.drop s.2.1 zb))) (λs=>(za.length - s.1)+(zb.length - s.2.1)) (0,0,ad1,cp2,ad3,cp4,none,0,[]) (show (MgI za zb (0:Nat) (0:Nat) ([]:List Int))/\(Sl κ [vc 3 (.slice ad1 za.length cp2) za] (.slice (ad1:Option Addr) (List.drop (0:Nat) za).length (cp2:Nat)) (List.drop (0:Nat) za))/\(Sl κ [vc 3 (.slice ad3 zb.length cp4) zb] (.slice (ad3:Option Addr) (List.drop (0:Nat) zb).length (cp4:Nat)) (List.drop (0:Nat) zb)) from ⟨MgI.start,he0,hf0⟩) (Aa (Da C (by first|rfl|simp)) (Aa (Da C (by first|rfl|simp)) (Aa C (Aa (Da C (by first|rfl|simp)) Bq)))) (B9 _ _) ?_)))
 rintro ⟨i,j,ea,ec,fa,fc,a,c,out⟩ hp
 dsimp only at hp ⊢
 obtain ⟨hM,hea,hfb⟩:=hp
 have hi1:=hM.hi
 have hj1:=hM.hj
 have hla:(List.drop i za).length=za.length - i:=List.length_drop
 have hlb:(List.drop j zb).length=zb.length - j:=List.length_drop
 have hol:out.length<=i:=by rw [hM.out];refine Nat.le_trans (List.length_filter_le _ _) ?_;rw [List.length_take];omega
 have hda:e_ (List.drop i za) 0=e_ za i:=at_zero_drop za i
 have hdb:e_ (List.drop j zb) 0=e_ zb j:=at_zero_drop zb j
 refine Au (Fe (σ:=Bool) (λs=>([(0,.slice ea (List.drop i za).length ec),(1,.slice fa (List.drop j zb).length fc),(2,.func (.func 236) #[] #[]),(7,.slice a out.length c),(30,.bool (decide (s=true)))]:Env)) (λs=>vc 3 (.slice a out.length c) (out)::vc 3 (.slice ad3 zb.length cp4) (zb)::vc 3 (.slice ad1 za.length cp2) (za)::I) (λs=>(s=true↔(i<za.length\/j<zb.length))) ?_ ?_)
 ·refine A0 (Gm C (Gr (Bz Ad C) (Gr (Ci C C) (Gm C (Bs (d:=26) C (λg26=>?_) (λg26=>?_))))))
  ·exact eb (eb (eb (Gr (Ap C C) (Bf (Cp ((true)) (by first|exact ⟨λ_=>by omega,λ_=>rfl⟩|exact ⟨λh=>(by cases h),λh=>by exfalso;omega⟩|(rw [decide_eq_true_eq];omega)))))))
  ·exact e9 (Af C) (e9 (Bz Ad C) (e9 (Ci C C) (Gr (Al C C) (Bf (Cp ((decide (0<(((List.drop j zb).length:Nat):Int)))) (by first|exact ⟨λ_=>by omega,λ_=>rfl⟩|exact ⟨λh=>(by cases h),λh=>by exfalso;omega⟩|(rw [decide_eq_true_eq];omega)))))))
 ·rintro pk hp
  have hpk:(pk=true↔(i<za.length\/j<zb.length)):=hp
  refine Bd C (λc30=>?_) (λc30=>?_)
  ·refine A4 (Ai (A6 (Fe (σ:=Bool) (λs=>([(0,.slice ea (List.drop i za).length ec),(1,.slice fa (List.drop j zb).length fc),(2,.func (.func 236) #[] #[]),(7,.slice a out.length c),(8,.bool (decide (s=true)))]:Env)) (λs=>vc 3 (.slice a out.length c) (out)::vc 3 (.slice ad3 zb.length cp4) (zb)::vc 3 (.slice ad1 za.length cp2) (za)::I) (λs=>(s=true↔(zb.length<=j\/(i<za.length/\e_ za i<=e_ zb j)))) ?_ ?_)))
   ·refine Bt mixed (C7 18 (Dr 0 C (Af C) ?_))
    have e0:=hpk.1 c30
    refine Dr 1 C (Bz Ad C) (Dr 2 C (Bl C C) (Dr 3 C (Af C) (D4 (d:=34) C (λg34=>?_) (λg34=>?_))))
    ·exact Dpo 4 C (Dpo 5 C (Dpo 6 C (Dpo 7 C (Dpu 8 C (Dpu 9 C (Dpu 10 C (Dpu 11 C (Dpu 12 C (Dpu 13 C (Dpu 14 C (Dpo 15 C (Dr 16 C (Ap C C) (Dr 17 C (Bb C) (Dz (Cp ((true)) (by first|exact ⟨λ_=>by omega,λ_=>rfl⟩|exact ⟨λh=>(by cases h),λh=>by exfalso;omega⟩|(rw [decide_eq_true_eq];omega)))))))))))))))))
    ·refine Dro 4 C (Af C) (Dro 5 C (Bz Ad C) (Dro 6 C (Ci C C) (Dro 7 C (Af C) (D4 (d:=38) C (λg38=>?_) (λg38=>?_)))))
     ·exact Dro 8 C (Af C) (Dro 9 C (A2 (α:=Int) (xs:=List.drop i za) Ad ef C C (Ce hea f1) om om) (Dro 10 C (B3 (xs:=List.drop i za) ef C (Ce hea f1) om om) (Dro 11 C (Af C) (Dro 12 C (A2 (α:=Int) (xs:=List.drop j zb) Ad ef C C (Ce hfb f1) om om) (Dro 13 C (B3 (xs:=List.drop j zb) ef C (Ce hfb f1) om om) (Dro 14 C (Ei C C) (Dro 15 C (Ap C C) (Dr 16 C (Al C C) (Dr 17 C (Bb C) (Dz (Cp ((decide ((e_ (List.drop i za) 0)<=(e_ (List.drop j zb) 0)))) (by first|exact ⟨λ_=>by omega,λ_=>rfl⟩|exact ⟨λh=>(by cases h),λh=>by exfalso;omega⟩|(rw [decide_eq_true_eq];omega)))))))))))))
     ·exact Dpo 8 C (Dpo 9 C (Dpo 10 C (Dpo 11 C (Dpo 12 C (Dpo 13 C (Dpo 14 C (Dro 15 C (Al C C) (Dr 16 C (Al C C) (Dr 17 C (Bb C) (Dz (Cp ((false)) (by first|exact ⟨λ_=>by omega,λ_=>rfl⟩|exact ⟨λh=>(by cases h),λh=>by exfalso;omega⟩|(rw [decide_eq_true_eq];omega)))))))))))))
   ·rintro pf hp
    have hpf:(pf=true↔(zb.length<=j\/(i<za.length/\e_ za i<=e_ zb j))):=hp
    refine Fe (σ:=Bool) (λs=>([(0,.slice ea (List.drop i za).length ec),(1,.slice fa (List.drop j zb).length fc),(2,.func (.func 236) #[] #[]),(7,.slice a out.length c),(8,.bool (decide (pf=true))),(9,.bool (decide (s=true)))]:Env)) (λs=>vc 3 (.slice a out.length c) (out)::vc 3 (.slice ad3 zb.length cp4) (zb)::vc 3 (.slice ad1 za.length cp2) (za)::I) (λs=>(s=true↔(za.length<=i\/(j<zb.length/\e_ zb j<=e_ za i)))) ?_ ?_
    ·refine Bt mixed (C7 18 (Dr 0 C (Af C) ?_))
     have e0:=hpk.1 c30
     refine Dr 1 C (Bz Ad C) (Dr 2 C (Bl C C) (Dr 3 C (Af C) (D4 (d:=51) C (λg51=>?_) (λg51=>?_))))
     ·exact Dpo 4 C (Dpo 5 C (Dpo 6 C (Dpo 7 C (Dpu 8 C (Dpu 9 C (Dpu 10 C (Dpu 11 C (Dpu 12 C (Dpu 13 C (Dpu 14 C (Dpo 15 C (Dr 16 C (Ap C C) (Dr 17 C (Bb C) (Dz (Cp ((true)) (by first|exact ⟨λ_=>by omega,λ_=>rfl⟩|exact ⟨λh=>(by cases h),λh=>by exfalso;omega⟩|(rw [decide_eq_true_eq];omega)))))))))))))))))
     ·refine Dro 4 C (Af C) (Dro 5 C (Bz Ad C) (Dro 6 C (Ci C C) (Dro 7 C (Af C) (D4 (d:=55) C (λg55=>?_) (λg55=>?_)))))
      ·exact Dro 8 C (Af C) (Dro 9 C (A2 (α:=Int) (xs:=List.drop j zb) Ad ef C C (Ce hfb f1) om om) (Dro 10 C (B3 (xs:=List.drop j zb) ef C (Ce hfb f1) om om) (Dro 11 C (Af C) (Dro 12 C (A2 (α:=Int) (xs:=List.drop i za) Ad ef C C (Ce hea f1) om om) (Dro 13 C (B3 (xs:=List.drop i za) ef C (Ce hea f1) om om) (Dro 14 C (Ei C C) (Dro 15 C (Ap C C) (Dr 16 C (Al C C) (Dr 17 C (Bb C) (Dz (Cp ((decide ((e_ (List.drop j zb) 0)<=(e_ (List.drop i za) 0)))) (by first|exact ⟨λ_=>by omega,λ_=>rfl⟩|exact ⟨λh=>(by cases h),λh=>by exfalso;omega⟩|(rw [decide_eq_true_eq];omega)))))))))))))
      ·exact Dpo 8 C (Dpo 9 C (Dpo 10 C (Dpo 11 C (Dpo 12 C (Dpo 13 C (Dpo 14 C (Dro 15 C (Al C C) (Dr 16 C (Al C C) (Dr 17 C (Bb C) (Dz (Cp ((false)) (by first|exact ⟨λ_=>by omega,λ_=>rfl⟩|exact ⟨λh=>(by cases h),λh=>by exfalso;omega⟩|(rw [decide_eq_true_eq];omega)))))))))))))
    ·rintro ps hp
     have hps:(ps=true↔(za.length<=i\/(j<zb.length/\e_ zb j<=e_ za i))):=hp
     refine Aj (Ga C ?_)
     have e0:=hpk.1 c30
     refine Ah (Au (Aj (Gm C ?_)))
     have hpq:pf=true\/ps=true:=by rw [hpf,hps];omega
     refine Ah (Bd C (λc65=>?_) (λc65=>?_))
     ·refine Bt mixed (C7 7 (Dr 0 C (Af C) ?_))
      have e1:=hpf.1 c65
      refine Dr 1 C (A2 (α:=Int) (xs:=List.drop i za) Ad ef C C (Ce hea f1) om om) (Dr 2 C (B3 (xs:=List.drop i za) ef C (Ce hea f1) om om) ?_)
      rw [hda]
      refine Dr 3 C (Af C) (Dr 4 C (Ew (α:=Int) (xs:=List.drop i za) (l:=1) Ad ef C C om (Ce hea f1) om) (Dr 5 C (Bb C) (Dr 6 C (Bb C) (Dz (Ai (Av (S7 0 10 1 2 7 8 9 C C C C C C C) (Au (Aj (Gm C (Ah (Bd C (λc71=>?_) (λc71=>?_))))))))))))
      ·refine Bt mixed (C7 7 (Dr 0 C (Af C) ?_))
       have e2:=hps.1 c71
       refine Dr 1 C (A2 (α:=Int) (xs:=List.drop j zb) Ad ef C C (Ce hfb f1) om om) (Dr 2 C (B3 (xs:=List.drop j zb) ef C (Ce hfb f1) om om) (Dr 3 C (Af C) (Dr 4 C (Ew (α:=Int) (xs:=List.drop j zb) (l:=1) Ad ef C C om (Ce hfb f1) om) (Dr 5 C (Bb C) (Dr 6 C (Bb C) (Dz (Ai (Av (S7 1 10 0 2 7 8 9 C C C C C C C) (Aj (Gm C ?_))))))))))
       first|have e1:=hpf.1 c65|have e1:=mt hpf.2 c65
       first|have e2:=hps.1 c71|have e2:=mt hps.2 c71
       refine Gm C (Gm C (Gc0 (C0 call236 C C C (Minus1_d (decide (pf=true)) (ps=true))) ?_))
       refine Ah (Bd C (λc80=>?_) (λc80=>?_))
       ·refine A0 (Gm C (Gm C (Ge1 (Cj (α:=Int) (cs:=[_]) (xs:=[e_ (List.drop j zb) 0]) Ad ef C C dc dc C C C C) λad5=>?_)))
        refine Ge2 (Cn (α:=Int) (e:=3) (xs:=out) (ys:=([e_ (List.drop j zb) 0]:List Int)) Ad ef C C C mm Bk lcn dc C (λ_ _=>am)) λad6 cp7=>?_
        exact Ga C (Bf (Ak (Ch ((i+1),(j+1),((adrop ea ec 1 (Enc.sz Int))),((ec - 1)),((adrop fa fc 1 (Enc.sz Int))),((fc - 1)),(ad6),(cp7),(out++([e_ (List.drop j zb) 0]:List Int))) (by dsimp only;exact ⟨(by first|exact hM.one hasa hasb om om|exact hM.two hasa hasb om om|exact hM.both hasa hasb om om om|(exfalso;first|omega|exact c80 c71)),(by first|exact hea|(have h:=Dw (l:=1) hea om;rw [List.drop_drop] at h;exact h)),(by first|exact hfb|(have h:=Dw (l:=1) hfb om;rw [List.drop_drop] at h;exact h))⟩))))
       ·exact A4 (Ak (Ch ((i+1),(j+1),((adrop ea ec 1 (Enc.sz Int))),((ec - 1)),((adrop fa fc 1 (Enc.sz Int))),((fc - 1)),(a),(c),(out)) (by dsimp only;exact ⟨(by first|exact hM.one hasa hasb om om|exact hM.two hasa hasb om om|exact hM.both hasa hasb om om om|(exfalso;first|omega|exact c80 c71)),(by first|exact hea|(have h:=Dw (l:=1) hea om;rw [List.drop_drop] at h;exact h)),(by first|exact hfb|(have h:=Dw (l:=1) hfb om;rw [List.drop_drop] at h;exact h))⟩)))
      ·refine A4 (Ai (Aj (Gm C ?_)))
       first|have e1:=hpf.1 c65|have e1:=mt hpf.2 c65
       first|have e2:=hps.1 c71|have e2:=mt hps.2 c71
       refine Gm C (Gm C (Gc0 (C0 call236 C C C (Minus1_d (decide (pf=true)) (ps=true))) ?_))
       refine Ah (Bd C (λc80=>?_) (λc80=>?_))
       ·refine A0 (Gm C (Gm C (Ge1 (Cj (α:=Int) (cs:=[_]) (xs:=[e_ za i]) Ad ef C C dc dc C C C C) λad8=>?_)))
        refine Ge2 (Cn (α:=Int) (e:=3) (xs:=out) (ys:=([e_ za i]:List Int)) Ad ef C C C mm Bk lcn dc C (λ_ _=>am)) λad9 cp10=>?_
        exact Ga C (Bf (Ak (Ch ((i+1),(j),((adrop ea ec 1 (Enc.sz Int))),((ec - 1)),(fa),(fc),(ad9),(cp10),(out++([e_ za i]:List Int))) (by dsimp only;exact ⟨(by first|exact hM.one hasa hasb om om|exact hM.two hasa hasb om om|exact hM.both hasa hasb om om om|(exfalso;first|omega|exact c80 c71)),(by first|exact hea|(have h:=Dw (l:=1) hea om;rw [List.drop_drop] at h;exact h)),(by first|exact hfb|(have h:=Dw (l:=1) hfb om;rw [List.drop_drop] at h;exact h))⟩))))
       ·exact A4 (Ak (Ch ((i+1),(j),((adrop ea ec 1 (Enc.sz Int))),((ec - 1)),(fa),(fc),(a),(c),(out)) (by dsimp only;exact ⟨(by first|exact hM.one hasa hasb om om|exact hM.two hasa hasb om om|exact hM.both hasa hasb om om om|(exfalso;first|omega|exact c80 c71)),(by first|exact hea|(have h:=Dw (l:=1) hea om;rw [List.drop_drop] at h;exact h)),(by first|exact hfb|(have h:=Dw (l:=1) hfb om;rw [List.drop_drop] at h;exact h))⟩)))
     ·refine A4 (Ai (Au (Aj (Gm C (Ah (Bd C (λc71=>?_) (λc71=>?_)))))))
      ·refine Bt mixed (C7 7 (Dr 0 C (Af C) ?_))
       have e2:=hps.1 c71
       refine Dr 1 C (A2 (α:=Int) (xs:=List.drop j zb) Ad ef C C (Ce hfb f1) om om) (Dr 2 C (B3 (xs:=List.drop j zb) ef C (Ce hfb f1) om om) (Dr 3 C (Af C) (Dr 4 C (Ew (α:=Int) (xs:=List.drop j zb) (l:=1) Ad ef C C om (Ce hfb f1) om) (Dr 5 C (Bb C) (Dr 6 C (Bb C) (Dz (Ai (Av (S7 1 10 0 2 7 8 9 C C C C C C C) (Aj (Gm C ?_))))))))))
       first|have e1:=hpf.1 c65|have e1:=mt hpf.2 c65
       first|have e2:=hps.1 c71|have e2:=mt hps.2 c71
       refine Gm C (Gm C (Gc0 (C0 call236 C C C (Minus1_d (decide (pf=true)) (ps=true))) ?_))
       refine Ah (Bd C (λc80=>?_) (λc80=>?_))
       ·refine A0 (Gm C (Gm C (Ge1 (Cj (α:=Int) (cs:=[_]) (xs:=[e_ (List.drop j zb) 0]) Ad ef C C dc dc C C C C) λad11=>?_)))
        refine Ge2 (Cn (α:=Int) (e:=3) (xs:=out) (ys:=([e_ (List.drop j zb) 0]:List Int)) Ad ef C C C mm Bk lcn dc C (λ_ _=>am)) λad12 cp13=>?_
        exact Ga C (Bf (Ak (Ch ((i),(j+1),(ea),(ec),((adrop fa fc 1 (Enc.sz Int))),((fc - 1)),(ad12),(cp13),(out++([e_ (List.drop j zb) 0]:List Int))) (by dsimp only;exact ⟨(by first|exact hM.one hasa hasb om om|exact hM.two hasa hasb om om|exact hM.both hasa hasb om om om|(exfalso;first|omega|exact c80 c71)),(by first|exact hea|(have h:=Dw (l:=1) hea om;rw [List.drop_drop] at h;exact h)),(by first|exact hfb|(have h:=Dw (l:=1) hfb om;rw [List.drop_drop] at h;exact h))⟩))))
       ·exact A4 (Ak (Ch ((i),(j+1),(ea),(ec),((adrop fa fc 1 (Enc.sz Int))),((fc - 1)),(a),(c),(out)) (by dsimp only;exact ⟨(by first|exact hM.one hasa hasb om om|exact hM.two hasa hasb om om|exact hM.both hasa hasb om om om|(exfalso;first|omega|exact c80 c71)),(by first|exact hea|(have h:=Dw (l:=1) hea om;rw [List.drop_drop] at h;exact h)),(by first|exact hfb|(have h:=Dw (l:=1) hfb om;rw [List.drop_drop] at h;exact h))⟩)))
      ·refine A4 (Ai (Aj (Gm C ?_)))
       first|have e1:=hpf.1 c65|have e1:=mt hpf.2 c65
       first|have e2:=hps.1 c71|have e2:=mt hps.2 c71
       refine Gm C (Gm C (Gc0 (C0 call236 C C C (Minus1_d (decide (pf=true)) (ps=true))) ?_))
       refine Ah (Bd C (λc80=>?_) (λc80=>?_))
       ·refine A0 (Gm C (Gm C (Ge1 (Cj (α:=Int) (cs:=[_]) (xs:=[0]) Ad ef C C dc dc C C C C) λad14=>?_)))
        refine Ge2 (Cn (α:=Int) (e:=3) (xs:=out) (ys:=([0]:List Int)) Ad ef C C C mm Bk lcn dc C (λ_ _=>am)) λad15 cp16=>?_
        exact Ga C (Bf (Ak (Ch ((i),(j),(ea),(ec),(fa),(fc),(ad15),(cp16),(out++([0]:List Int))) (by dsimp only;exact ⟨(by first|exact hM.one hasa hasb om om|exact hM.two hasa hasb om om|exact hM.both hasa hasb om om om|(exfalso;first|omega|exact c80 c71)),(by first|exact hea|(have h:=Dw (l:=1) hea om;rw [List.drop_drop] at h;exact h)),(by first|exact hfb|(have h:=Dw (l:=1) hfb om;rw [List.drop_drop] at h;exact h))⟩))))
       ·exact A4 (Ak (Ch ((i),(j),(ea),(ec),(fa),(fc),(a),(c),(out)) (by dsimp only;exact ⟨(by first|exact hM.one hasa hasb om om|exact hM.two hasa hasb om om|exact hM.both hasa hasb om om om|(exfalso;first|omega|exact c80 c71)),(by first|exact hea|(have h:=Dw (l:=1) hea om;rw [List.drop_drop] at h;exact h)),(by first|exact hfb|(have h:=Dw (l:=1) hfb om;rw [List.drop_drop] at h;exact h))⟩)))
  ·refine Bp (Ac (Ac (Aw (Ai (Aj (Gm C (Ga C (Ah (Az ?_)))))))))
   have e0:=mt hpk.2 c30
   have hE:out=minusZ xs ys:=by rw [hM.out,show i=za.length by omega,List.take_length];unfold minusZ;rw [hza,hzb]
   exact Ba C C (vc 3 (.slice a (minusZ xs ys).length c) (minusZ xs ys)::I) (by rw [←hE];exact Bv) ⟨a,c,by rw [←hE],rfl⟩
theorem MinusI_ok{κ:Ctx}{I:List Item}{a0 b0:Option Addr}{c0 d0:Nat}{xs ys:List Int}(hl:Sl κ I (.slice a0 xs.length c0) xs)(hm:Sl κ I (.slice b0 ys.length d0) ys)(hx:xs.length<=100000)(hy:ys.length<=100000):eu prog κ 174 [.slice a0 xs.length c0,.slice b0 ys.length d0] I (λr J=>∃a c,r = .slice a (minusZ xs ys).length c/\J=vc 3 (.slice a (minusZ xs ys).length c) (minusZ xs ys)::I):=by
 refine Ce2 Tryz.func174 C C ?_
 refine Aj (Ga C (Ah (Aj (Gm C (Gm C (Gc2 (Am call235 C C (MergedI_ok (Bj hl) (Bj hm) om om)) λad1 cp2=>?_))))))
 exact Ga C (Ah (Az (Ba C C (vc 3 (.slice ad1 (minusZ xs ys).length cp2) (minusZ xs ys)::I) A5 ⟨ad1,cp2,rfl,rfl⟩)))
theorem WithinI_ok{κ:Ctx}{I:List Item}{a0 b0:Option Addr}{c0 d0:Nat}{xs ys:List Int}(hl:Sl κ I (.slice a0 xs.length c0) xs)(hm:Sl κ I (.slice b0 ys.length d0) ys)(hx:xs.length<=100000)(hy:ys.length<=100000):eu prog κ 102 [.slice a0 xs.length c0,.slice b0 ys.length d0] I (λr J=>r = .bool (decide (∀x∈xs,x∈ys))/\I=J):=by
 refine Ce2 Tryz.func102 C C ?_
 refine Aj (Ga C (Ah (Aj (Gm C (Gm C (Gc2 (Am call174 C C (MinusI_ok (Bj hl) (Bj hm) om om)) λad1 cp2=>?_))))))
 exact Gr (Bz Ad C) (Gr (Bl C C) (Ga C (Ah (Az (Ba C C I Ay ⟨by rw [decide_eq_decide.2 (show (((minusZ xs ys).length:Nat):Int)=0↔∀x∈xs,x∈ys from by rw [←minusZ_nil];omega)],rfl⟩)))))
variable {κ:Ctx}{I:List Item}
theorem Nothing_ok  :
    eu prog κ 168 [] I (λr J=>r = .agg #[.slice none 0 0,e7 0,e7 1,e7 1,.slice none 0 0]/\I=J):=by
 refine Ce0 Tryz.func168 C C ?_
 refine Aj (Ge1 (A9 ty102 C) λb1=>Ah (Aj (Gr (Bc (cells:=[_,_]) ty40 B0 pl40 C C) (Gr (Bc (cells:=[_,_]) ty88 Tryz.underlying88 pl88 C C) (Gr (Bc (cells:=[_,_,_,_,_]) ty102 E8 pl102 C C) (Ge0 (Dn ty102) ?_))))))
 exact Ah (Az (Cf C ty102 C mm C I Ay ⟨rfl,rfl⟩))
structure BestR (nd:Int) (es:List Pt) (N D:Int) (B:BitVec 64):Prop where
 err:checkG nd es≠0->N=0/\D=0/\B=0#64
 none:checkG nd es=0->nd=0->N=0/\D=1/\B=0#64
 some:checkG nd es=0->nd≠0->DensR nd es N D B
set_option maxHeartbeats 1000000 in
theorem BestD_ok{nd:Int}{ea:Option Addr}{ec:Nat}{es:List Pt}(hl:Sl κ I (.slice ea es.length ec) es)(hT:TabRd κ I 0 tzCells):eu prog κ 100 [.agg #[e7 nd,.slice ea es.length ec]] I (λr J=>∃a c B a2 c2 parts N D E,r = .tuple #[.agg #[.slice a (eo B).length c,e7 N,e7 D,e7 E,.slice a2 (parts:List Int).length c2],e7 (checkG nd es)]/\(BestR nd es N D B/\SplitB nd es N D E parts)/\J=vc 3 (.slice a (eo B).length c) (eo B)::vc 3 (.slice a2 parts.length c2) parts::I):=by
 refine Ce1 Tryz.func100 C C ?_
 refine Aj (Ge1 (Bg (cs:=[_,_]) C C C) λb1=>Ge1 (A9 ty102 C) λb2=>Ga C (Ah (Au (Aj (Gl2 ty48 ?_)))))
 refine Gc0 (Am call83 C C (CheckGen_ok (Bj hl))) ?_
 refine Ga C (Ah (Aj (Gm C (Gr (Bx C C) (Gm C (Bs (d:=11) C (λg11=>?_) (λg11=>?_)))))))
 ·refine eb (eb (eb (Gr (Ap C C) (Ah (Av (S4 15 4 2 1 C C C C) (Do C (Au (Aj (Gm C (Gr (Bx C C) (Ah (Bd C (λc17=>?_) (λc17=>?_)))))))))))))
  ·refine Aj (Gr (Bc (cells:=[_,_,_,_,_]) ty102 E8 pl102 C C) (Gm C (Ge0 (Dn ty102) ?_)))
   exact Ga C (Ah (Az (Ar (Ar (D3 C ty102 C C mm C (vc 3 (.slice none (eo 0#64).length 0) (eo 0#64)::vc 3 (.slice none ([]:List Int).length 0) ([]:List Int)::I) (by rw [Du];exact A8 (show Fit κ _ I from Ay) (A8 (B9 (α:=Int) _ _) (B9 (α:=Int) _ _))) ⟨none,0,0#64,none,0,[],0,0,0,by rw [Du];rfl,⟨⟨λ_=>⟨rfl,rfl,rfl⟩,λh=>absurd h c17,λh=>absurd h c17⟩,λh=>absurd h c17⟩,rfl⟩)))))
  ·refine A4 (Ai (Aj (Gc0 (Am call168 C C Nothing_ok) ?_)))
   refine Ge0 (Dn ty102) ?_
   refine Ga C (Ah (Az (Ar ?_)))
   have hz:checkG nd es=0:=Classical.not_not.1 c17
   have hn0:nd=0:=by first|exact c15|exact absurd g11 c17
   exact D3 C ty102 C C mm C (vc 3 (.slice none (eo 0#64).length 0) (eo 0#64)::vc 3 (.slice none ([]:List Int).length 0) ([]:List Int)::I) (by rw [Du];exact A8 (show Fit κ _ I from Ay) (A8 (B9 (α:=Int) _ _) (B9 (α:=Int) _ _))) ⟨none,0,0#64,none,0,[],0,1,1,by rw [Du,hz];rfl,⟨⟨λh=>absurd hz h,λ_ _=>⟨rfl,rfl,rfl⟩,λ_ h=>absurd hn0 h⟩,λ_=>⟨rfl,splitP_nil (checkG_ok.1 hz) hn0⟩⟩,rfl⟩
 ·refine e9 (Ab fld48_0 C) (e9 (As ef) ?_)
  refine e9 (Bl C C) (Gr (Al C C) (Ah (Av (S4 15 4 2 1 C C C C) (Bd C (λc15=>?_) (λc15=>?_)))))
  ·refine Au (Aj (Gm C (Gr (Bx C C) (Ah (Bd C (λc17=>?_) (λc17=>?_))))))
   ·refine Aj (Gr (Bc (cells:=[_,_,_,_,_]) ty102 E8 pl102 C C) (Gm C (Ge0 (Dn ty102) ?_)))
    exact Ga C (Ah (Az (Ar (Ar (D3 C ty102 C C mm C (vc 3 (.slice none (eo 0#64).length 0) (eo 0#64)::vc 3 (.slice none ([]:List Int).length 0) ([]:List Int)::I) (by rw [Du];exact A8 (show Fit κ _ I from Ay) (A8 (B9 (α:=Int) _ _) (B9 (α:=Int) _ _))) ⟨none,0,0#64,none,0,[],0,0,0,by rw [Du];rfl,⟨⟨λ_=>⟨rfl,rfl,rfl⟩,λh=>absurd h c17,λh=>absurd h c17⟩,λh=>absurd h c17⟩,rfl⟩)))))
   ·refine A4 (Ai (Aj (Gc0 (Am call168 C C Nothing_ok) ?_)))
    refine Ge0 (Dn ty102) ?_
    refine Ga C (Ah (Az (Ar ?_)))
    have hz:checkG nd es=0:=Classical.not_not.1 c17
    have hn0:nd=0:=by first|exact c15|exact absurd g11 c17
    exact D3 C ty102 C C mm C (vc 3 (.slice none (eo 0#64).length 0) (eo 0#64)::vc 3 (.slice none ([]:List Int).length 0) ([]:List Int)::I) (by rw [Du];exact A8 (show Fit κ _ I from Ay) (A8 (B9 (α:=Int) _ _) (B9 (α:=Int) _ _))) ⟨none,0,0#64,none,0,[],0,1,1,by rw [Du,hz];rfl,⟨⟨λh=>absurd hz h,λ_ _=>⟨rfl,rfl,rfl⟩,λ_ h=>absurd hn0 h⟩,λ_=>⟨rfl,splitP_nil (checkG_ok.1 hz) hn0⟩⟩,rfl⟩
  ·refine A4 (Ai (Aj (Gl2 ty48 ?_)))
   have hz:checkG nd es=0:=by first|exact Classical.not_not.1 g11|omega
   have hG:=checkG_ok.1 hz
   have hm:=edges_le hG
   have hrng:=hG.rng
   have hnd:1<=nd:=by omega
   refine G.e (Am call169 C C (Plain_ok (Bj hl) hm hG.rng)) ?_
   rintro _ _ ⟨_,_,⟨aw,cw,ab,cb,ak,ck,ws,bs,cs,rfl,hPl,rfl⟩,rfl,rfl⟩
   refine G.e (Am call170 C C (Densest_ok (Bj hl) Bk Bk Bk hG hm hPl om (Bw hT Ay))) ?_
   rintro _ _ ⟨_,_,⟨Bn,pa,pc,parts,Nn,Dd,rfl,hS,hpl,rfl⟩,rfl,rfl⟩
   refine Gm C (Gr (Ax C C) (Gr (Ax C C) (Ge1 (A9 ty208 C) λb3=>Ge1 (A9 ty40 C) λb4=>Ge0 (Cs ty208) ?_)))
   refine Ge0 (Cs ty40) ?_
   refine Ah (Au (Bt mixed (C7 10 (Dr 0 C (Ab fld208_0 C) (Dr 1 C (As ty175) ?_)))))
   refine Dr 3 C (Be (vs:=[_,_]) ty40) ?_
   refine Dr 4 C (Ab fld40_1 C) (Dr 5 C (As ef) ?_)
   refine Dr 6 C (Ab fld208_1 C) (Dr 7 C (As ty22) ?_)
   refine Dr 8 C (Bc (cells:=[_,_]) ty88 Tryz.underlying88 pl88 C C) (Ds1 2 (Sc2 C (Am call171 C C (MList_ok Bn (Bw hT Ay))) λad5 cp6=>?_))
   refine Dr 9 C (Bc (cells:=[_,_,_,_,_]) ty102 E8 pl102 C C) (Dc kr ?_)
   refine Ae 10 C (Dn ty102) ?_
   rintro _ _ ⟨rfl,rfl⟩
   refine Fc (i:=11) kr C (Bm C) C C (Bb C) ?_
   refine De kr ?_
   exact Ai (Av (S2 3 2 C C) (Az (D3 C ty102 C C mm C (vc 3 (.slice ad5 (eo Bn).length cp6) (eo Bn)::vc 3 (.slice pa parts.length pc) parts::I) Bv ⟨ad5,cp6,Bn,pa,pc,parts,Nn,Dd,Dd,by rw [hz]<;>rfl,⟨⟨λh=>absurd hz h,λ_ h=>absurd h om,λ_ _=>hS⟩,λ_=>⟨rfl,hpl⟩⟩,rfl⟩)))
end Go.Sl
namespace Go.Sl
def bestT(sup:List Int)(gone:List Bool):Nat->Int
 |0=> -1
 |i+1=>if e_ gone i=false/\(bestT sup gone i<0\/e_ sup i<e_ sup (bestT sup gone i)) then (i:Int) else bestT sup gone i
theorem bestT_lt(sup:List Int)(gone:List Bool)(n:Nat) : -1<=bestT sup gone n/\bestT sup gone n<n:=by
 induction n with
 |zero=>simp [bestT]
 |succ n ih=>unfold bestT;split<;>omega
theorem bestT_there(sup:List Int)(gone:List Bool)(n:Nat):bestT sup gone n<0\/e_ gone (bestT sup gone n)=false:=by
 induction n with
 |zero=>left;simp [bestT]
 |succ n ih=>
  unfold bestT;split
  ·rename_i h;exact .inr h.1
  ·exact ih
theorem bestT_some{sup:List Int}{gone:List Bool}{n:Nat}(h:∃i:Nat,i<n/\e_ gone i=false):0<=bestT sup gone n:=by
 induction n with
 |zero=>obtain ⟨i,hi,_⟩:=h;omega
 |succ n ih=>
  unfold bestT
  by_cases hb:bestT sup gone n<0
  ·obtain ⟨i,hi,hg⟩:=h
   have hin:i=n:=by
    refine Classical.byContradiction λhne=>?_
    have:=ih ⟨i,by omega,hg⟩
    omega
   subst hin
   rw [if_pos ⟨hg,.inl hb⟩];omega
  ·split<;>omega
def lowT(gone:List Bool)(sup:List Int)(p:Pt):List Int:=
 if e_ gone p.u=false/\e_ gone p.v=false then (sup.set p.u.toNat (e_ sup p.u - 1)).set p.v.toNat (e_ (sup.set p.u.toNat (e_ sup p.u - 1)) p.v - 1) else sup
structure TrS where
 sup:List Int
 gone:List Bool
 num:List Int
 ord:List Int
 k:Int
def startT(tri:List (List Pt)):TrS:=⟨tri.map λl=>(l.length:Int),List.replicate tri.length false,List.replicate tri.length 0,[],0⟩
def stepTr(tri:List (List Pt))(s:TrS):TrS:=
  ⟨(e_ tri (bestT s.sup s.gone tri.length)).foldl (lowT (s.gone.set (bestT s.sup s.gone tri.length).toNat true)) s.sup,s.gone.set (bestT s.sup s.gone tri.length).toNat true,
   s.num.set (bestT s.sup s.gone tri.length).toNat (max s.k (e_ s.sup (bestT s.sup s.gone tri.length))),s.ord++[bestT s.sup s.gone tri.length],max s.k (e_ s.sup (bestT s.sup s.gone tri.length))⟩
def runTr(tri:List (List Pt)):Nat->TrS
 |0=>startT tri
 |j+1=>stepTr tri (runTr tri j)
def trussN(tri:List (List Pt)):List Int:=(runTr tri tri.length).num
def trussO(tri:List (List Pt)):List Int:=(runTr tri tri.length).ord
structure TriOk (m:Nat) (tri:List (List Pt)):Prop where
 len:∀l∈tri,l.length<=m
 rng:∀l∈tri,∀p∈l,0<=p.u/\p.u<tri.length/\0<=p.v/\p.v<tri.length
structure TrOk (m n j:Nat) (s:TrS):Prop where
 slen:s.sup.length=n
 glen:s.gone.length=n
 nlen:s.num.length=n
 olen:s.ord.length=j
 cnt:s.gone.count false+j=n
 sup:∀x∈s.sup, -(2*(m:Int)*j)<=x/\x<=m
 k:0<=s.k/\s.k<=m
 num:∀x∈s.num,0<=x/\x<=m
theorem lowT_len(gone:List Bool)(sup:List Int)(p:Pt):(lowT gone sup p).length=sup.length:=by unfold lowT;split<;>simp
theorem lowT_rng{gone:List Bool}{sup:List Int}{p:Pt}{a b:Int}(hp:0<=p.u/\p.u<sup.length/\0<=p.v/\p.v<sup.length)(h:∀x∈sup,a<=x/\x<=b):∀x∈lowT gone sup p,a - 2<=x/\x<=b:=by
 unfold lowT
 split
 ·intro x hx
  have hu:=h _ (at_mem hp.1 hp.2.1)
  have hv:=h _ (at_mem hp.2.2.1 hp.2.2.2)
  rcases List.mem_or_eq_of_mem_set hx with hx|rfl
  ·rcases List.mem_or_eq_of_mem_set hx with hx|rfl
   ·have:=h x hx;omega
   ·omega
  ·rw [at_set _ p.u p.v _ hp.1 hp.2.2.1 hp.2.1]
   split<;>omega
 ·intro x hx;have:=h x hx;omega
theorem low_all{gone:List Bool}{b:Int}{n:Nat}:∀(l:List Pt) {sup:List Int} {a:Int},sup.length=n->(∀p∈l,0<=p.u/\p.u<n/\0<=p.v/\p.v<n)->(∀x∈sup,a<=x/\x<=b)->(l.foldl (lowT gone) sup).length=n/\∀x∈l.foldl (lowT gone) sup,a - 2*l.length<=x/\x<=b
 |[],sup,a,hs,_,h=>⟨hs,λx hx=>by have:=h x hx;simp only [List.length_nil];omega⟩
 |p::l,sup,a,hs,hp,h=>by
  have h1:=lowT_rng (gone:=gone) (p:=p) (by have:=hp p List.mem_cons_self;omega) h
  obtain ⟨h2,h3⟩:=low_all (gone:=gone) (b:=b) (n:=n) l (sup:=lowT gone sup p) (a:=a - 2) (by rw [lowT_len];exact hs) (λq hq=>hp q (List.mem_cons_of_mem _ hq)) h1
  refine ⟨h2,λx hx=>?_⟩
  have:=h3 x hx
  simp only [List.length_cons];omega
theorem TrOk.start{m:Nat}{tri:List (List Pt)}(h:TriOk m tri):TrOk m tri.length 0 (startT tri):=by
 refine ⟨by simp [startT],by simp [startT],by simp [startT],rfl,by simp [startT],λx hx=>?_,by simp [startT],λx hx=>?_⟩
 ·obtain ⟨l,hl,rfl⟩:=List.mem_map.1 hx
  have:=h.len l hl
  simp;omega
 ·have:=List.eq_of_mem_replicate hx;omega
theorem TrOk.best{m j:Nat}{tri:List (List Pt)}{s:TrS}(hs:TrOk m tri.length j s)(hj:j<tri.length):0<=bestT s.sup s.gone tri.length/\bestT s.sup s.gone tri.length<tri.length/\e_ s.gone (bestT s.sup s.gone tri.length)=false:=by
 have hc:=hs.cnt
 have h0:0<=bestT s.sup s.gone tri.length:=by
  refine bestT_some ?_
  have hm:false∈s.gone:=List.count_pos_iff.1 (by omega)
  obtain ⟨i,hi,e⟩:=List.mem_iff_getElem.1 hm
  exact ⟨i,by have:=hs.glen;omega,by rw [at_get _ _ hi,e]⟩
 exact ⟨h0,(bestT_lt _ _ _).2,(bestT_there _ _ _).resolve_left (by omega)⟩
theorem TrOk.step{m j:Nat}{tri:List (List Pt)}{s:TrS}(h:TriOk m tri)(hs:TrOk m tri.length j s)(hj:j<tri.length):TrOk m tri.length (j+1) (stepTr tri s):=by
 obtain ⟨h0,h1,h2⟩:=hs.best hj
 unfold stepTr
 generalize bestT s.sup s.gone tri.length=b at h0 h1 h2
 have hrow:=at_mem (xs:=tri) h0 h1
 have hsb:=hs.sup _ (at_mem (xs:=s.sup) (i:=b) h0 (by have:=hs.slen;omega))
 obtain ⟨l1,l2⟩:=low_all (gone:=s.gone.set b.toNat true) (b:=(m:Int)) (n:=tri.length) (e_ tri b) hs.slen (λp hp=>h.rng _ hrow p hp) hs.sup
 have hl:=h.len _ hrow
 have hk:=hs.k
 have hg:b.toNat<s.gone.length:=by have:=hs.glen;omega
 have hgb:s.gone[b.toNat]=false:=by rw [←at_get _ _ hg,show ((b.toNat:Nat):Int)=b by omega];exact h2
 have hcnt:=hs.cnt
 refine ⟨l1,by rw [List.length_set];exact hs.glen,by rw [List.length_set];exact hs.nlen,by simp [hs.olen],?_,λx hx=>?_,?_,λx hx=>?_⟩
 ·show (s.gone.set b.toNat true).count false+(j+1)=_
  rw [List.count_set hg,hgb]
  have:0<s.gone.count false:=List.count_pos_iff.2 (hgb▸List.getElem_mem hg)
  simp;omega
 ·have:=l2 x hx
  have e:2*(m:Int)*((j+1:Nat):Int)=2*m*j+2*m:=by rw [Int.natCast_add,Int.mul_add];omega
  omega
 ·show 0<=max s.k _/\max s.k _<=(m:Int);omega
 ·rcases List.mem_or_eq_of_mem_set hx with hx|rfl
  ·exact hs.num x hx
  ·omega
theorem runTr_ok{m:Nat}{tri:List (List Pt)}(h:TriOk m tri):∀j,j<=tri.length->TrOk m tri.length j (runTr tri j)
 |0,_=>TrOk.start h
 |j+1,hj=>(runTr_ok h j (by omega)).step h (by omega)
theorem trussN_bound{m:Nat}{tri:List (List Pt)}(h:TriOk m tri):(trussN tri).length=tri.length/\∀x∈trussN tri,0<=x/\x<=m:=⟨(runTr_ok h _ (Nat.le_refl _)).nlen,(runTr_ok h _ (Nat.le_refl _)).num⟩
end Go.Sl
namespace Go.Sl
open Go.RowKit (Below)
section
variable {α:Type}[Enc α][DecidableEq α]
def entF:Nat->List α->List MapEntry
 |_,[]=>[]
 |i,x::xs=>{key:= .agg (Enc.enc x).toArray,val:=e7 (i:Nat),born:=i}::entF (i+1) xs
theorem entF_snoc:∀(xs:List α) (i:Nat) (x:α),entF i (xs++[x])=entF i xs++[{key:= .agg (Enc.enc x).toArray,val:=e7 ((i+xs.length:Nat):Int),born:=i+xs.length}]
 |[],i,x=>by simp [entF]
 |y::ys,i,x=>by
  have h:=entF_snoc ys (i+1) x
  rw [show i+1+ys.length=i+(ys.length+1) by omega] at h
  show _::entF (i+1) (ys++[x])=_
  rw [h];rfl
def KeyT(P:Program)(T:TypeId)(α:Type)[Enc α]:Prop:=∀(x:α) (e:Bool) (w:World),(Instr.checkKey e 10000 T (.agg (Enc.enc x).toArray)).run P w = .ok () w
theorem run_asking{P:Program}{T:TypeId}{w:World}(h:EqT P T α)(k:α):∀(xs:List α) (i j:Nat),(Instr.findAsking T (.agg (Enc.enc k).toArray) (entF i xs) j).run P w = .ok (if k∈xs then some (j+xs.idxOf k,e7 ((i+xs.idxOf k:Nat):Int)) else none) w
 |[],i,j=>by simp [entF,Instr.findAsking]
 |x::xs,i,j=>by
  have ih:=run_asking (w:=w) h k xs (i+1) (j+1)
  have he:(Op.equal T (.agg (Enc.enc k).toArray) (.agg (Enc.enc x).toArray)).run P w = .ok (decide (k=x)) w:=h.1 k x w
  unfold entF Instr.findAsking
  simp only [Sem.run_bind,he,Result.andThen]
  by_cases hx:k=x
  ·subst hx
   simp
  ·rw [decide_eq_false hx]
   simp only [Bool.false_eq_true,if_false]
   rw [ih]
   have hb:(x==k)=false:=by simpa using λe=>hx e.symm
   by_cases hm:k∈xs
   ·rw [if_pos hm,if_pos (List.mem_cons_of_mem _ hm),List.idxOf_cons,hb]
    simp only [cond_false]
    rw [show j+1+List.idxOf k xs=j+(List.idxOf k xs+1) by omega,show i+1+List.idxOf k xs=i+(List.idxOf k xs+1) by omega]
   ·rw [if_neg hm,if_neg (by simp [hx,hm])]
theorem run_findStruct{P:Program}{T:TypeId}{fs:Array Field}{w:World}(hT:P.underlying T=some (.struct fs))(h:EqT P T α)(k:α)(xs:List α):(Instr.findKey T (.agg (Enc.enc k).toArray) (entF 0 xs)).run P w = .ok (if k∈xs then some (xs.idxOf k,e7 ((xs.idxOf k:Nat):Int)) else none) w:=by
 unfold Instr.findKey
 simp only [Sem.run_bind,run_underlying hT,Result.andThen]
 cases xs with
 |nil=>simp [entF,Instr.findNow]
 |cons x xs=>
  have e:Instr.findNow (.struct fs) (.agg (Enc.enc k).toArray) (entF 0 (x::xs)) 0=none:=by
   simp [entF,Instr.findNow,Instr.sameNow]
  rw [e]
  have:=run_asking (w:=w) h k (x::xs) 0 0
  simp only [Nat.zero_add] at this
  exact this
def mpE(r:Nat)(xs:List α):Item:=mp r (entF 0 xs) xs.length
section
variable {P:Program}{κ:Ctx}{N:Frm}{Q:Exit->Act->World->Prop}{L:Env}{I J:List Item}{ops:Array Oper}{rest:List Oper}
variable {d:Option Tmp}{ty:TypeId}{ps:String}{af:Array Edge}{gd:Option (Nat×Bool)}
theorem Eff.makeMapE{T dd:Nat}(hN:Nat.blt dd N.n=true) :
  Eff P κ N Q ⟨some dd,.makeMap T none,ty,ps,af,gd⟩ L I λL' I'=>∃r,L'=(dd,.map (some r))::L/\I'=mpE (α:=α) r []::I:=Eff.makeMap hN
theorem Eff.updateE{x y z:Operand}{T kt et r:Nat}{fs:Array Field}{xs:List α}{k:α}{v:Value}{I':List Item}(ht:P.underlying T=some (.map kt et))(hkt:P.underlying kt=some (.struct fs))(he:EqT P kt α)(hc:KeyT P kt α)(hx:er L x=some (.map (some r)))
  (hy:er L y=some (.agg (Enc.enc k).toArray)) (hz:er L z=some v) (hv:v=e7 ((xs.length:Nat):Int)) (hk:k∉xs) (hat:At I (mpE r xs) (mpE r (xs++[k])) I') :
  Eff P κ N Q ⟨none,.mapUpdate T x y z,ty,ps,af,gd⟩ L I λL' I''=>L'=L/\I''=I':=
 Eff.of_skip rfl λa w ha hs=>by
  have hb:=(hs.ok _ hat.mem).1
  have hf:=run_findStruct (w:=w) hkt he k xs
  rw [if_neg hk] at hf
  have hsn:=entF_snoc xs 0 k
  simp only [Nat.zero_add] at hsn
  refine ⟨{w with heap:=w.heap.setIfInBounds r (.map (entF 0 (xs++[k])).toArray (xs++[k]).length)},I',?_,⟨rfl,rfl⟩,?_⟩
  ·subst hv
   have hpush:(entF 0 xs).toArray.push {key:= .agg (Enc.enc k).toArray,val:=e7 ((xs.length:Nat):Int),born:=xs.length}=(entF 0 (xs++[k])).toArray:=by
    rw [hsn];simp
   have hl:xs.length+1=(xs++[k]).length:=by simp
   simp [execOp,ha.eval hx,ha.eval hy,ha.eval hz,Instr.mapUpdate,run_underlying ht,MapKept.run_getObj_map hb,hc k,hf,MapKept.run_setObj_map _ hb,Result.andThen,hsn]
  ·exact hs.upd hat rfl ⟨rfl,Nat.le_refl _⟩ rfl (by simp) (λk _ hne=>(MapKept.heap_set hb).2 k λe=>hne e) (MapKept.heap_set hb).1 λk hk=> .inl hk
theorem Runs.lookupE{x y:Operand}{T kt et r:Nat}{fs:Array Field}{xs:List α}{k:α}(ht:P.underlying T=some (.map kt et))(hkt:P.underlying kt=some (.struct fs))(he:EqT P kt α)(hc:KeyT P kt α)(hx:er L x=some (.map (some r)))
  (hy:er L y=some (.agg (Enc.enc k).toArray)) (hm:mpE r xs∈J) (hk:k∈xs):Runs P κ N ⟨d,.lookup T x y false,ty,ps,af,gd⟩ L J (e7 ((xs.idxOf k:Nat):Int)):=
 λa w ha hs=>by
  have hb:=(hs.ok _ hm).1
  have hf:=run_findStruct (w:=w) hkt he k xs
  rw [if_pos hk] at hf
  simp [execOp,ha.eval hx,ha.eval hy,Instr.lookup,run_underlying ht,MapKept.run_getObj_map hb,hc k,hf,Result.andThen]
end
end
end Go.Sl
namespace Go.Sl
open Go.Proofs
set_option maxRecDepth 4000
variable {κ:Ctx}{I:List Item}
def triE(nd:Int)(es:List Pt)(e:Pt):List Pt:=(commonG nd es e.u e.v).map λw=>(⟨((es.idxOf (edgeP e.u w):Nat):Int),((es.idxOf (edgeP e.v w):Nat):Int)⟩:Pt)
def trisE(nd:Int)(es:List Pt):List (List Pt):=es.map (triE nd es)
theorem ck135:KeyT prog 135 Pt:=λx e w=>by
 cases x;kernel_rfl
theorem common_mem{nd:Int}{es:List Pt}(hG:GrOk nd es){e:Pt}(he:e∈es){w:Int}(hw:w∈commonG nd es e.u e.v):edgeP e.u w∈es/\edgeP e.v w∈es:=by
 have hed:=hG.edge e he
 have hr:=hG.rows
 have hne:e.u≠e.v:=by omega
 have hc:¬checkG nd es≠0:=λh=>h (checkG_ok.2 hG)
 have hrow:∀u:Int,0<=u->u<nd->rowG nd es u=e_ (ek nd es) u:=λu h0 h1=>by
  have hlr:=hG.rows.len
  unfold rowG
  rw [if_neg (by rintro (h|h|h);(· omega);(· omega);(· exact hc h))]
 rw [←common_eq hne,mem_andB,hrow _ hed.1 om,hrow _ om hed.2.2,hr.mem hed.1 om,hr.mem om hed.2.2] at hw
 have key:∀a b:Int,((⟨a,b⟩:Pt)∈es\/(⟨b,a⟩:Pt)∈es)->edgeP a b∈es:=λa b h=>by
  unfold edgeP
  rcases h with h|h
  ·have:=hG.edge _ h
   simp only at this
   rw [if_neg om,if_pos om];exact h
  ·have:=hG.edge _ h
   simp only at this
   rw [if_pos om,if_neg om];exact h
 exact ⟨key _ _ hw.1.2,key _ _ hw.2.2⟩
theorem common_len{nd:Int}{es:List Pt}(hG:GrOk nd es){e:Pt}(he:e∈es):(commonG nd es e.u e.v).length<=nd.toNat - 1:=by
 have hed:=hG.edge e he
 have hne:e.u≠e.v:=by omega
 have hc:¬checkG nd es≠0:=λh=>h (checkG_ok.2 hG)
 have hrow:∀u:Int,0<=u->u<nd->rowG nd es u=e_ (ek nd es) u:=λu h0 h1=>by
  have hlr:=hG.rows.len
  unfold rowG
  rw [if_neg (by rintro (h|h|h);(· omega);(· omega);(· exact hc h))]
 rw [←common_eq hne,hrow _ hed.1 om,hrow _ om hed.2.2]
 have hS:=rows_sym hG
 have hl:=hG.rows.len
 have:=degB_lt hS (e_ (ek nd es) e.v) hed.1 om
 unfold degB at this
 omega
theorem tris_ok{nd:Int}{es:List Pt}(hG:GrOk nd es):TriOk (nd.toNat - 1) (trisE nd es):=by
 refine ⟨λl hl=>?_,λl hl p hp=>?_⟩
 ·obtain ⟨e,he,rfl⟩:=List.mem_map.1 hl
  unfold triE;rw [List.length_map];exact common_len hG he
 ·obtain ⟨e,he,rfl⟩:=List.mem_map.1 hl
  obtain ⟨w,hw,rfl⟩:=List.mem_map.1 hp
  obtain ⟨h1,h2⟩:=common_mem hG he hw
  have a:=List.idxOf_lt_length_of_mem h1
  have b:=List.idxOf_lt_length_of_mem h2
  have hl:(trisE nd es).length=es.length:=List.length_map ..
  simp only
  omega
def rgI(rs:List (RowG Pt)):List Item:=rs.map λr=>vc 64 (.slice r.a r.xs.length r.c) r.xs
theorem At.rg{I:List Item}{ad:Option Addr}{c:Nat}{xs:List Pt}:∀{rs:List (RowG Pt)} {i:Int},0<=i->i<rs.length->
  At (rgI rs++I) (vc 64 (.slice (e_ rs i).a (e_ rs i).xs.length (e_ rs i).c) (e_ rs i).xs) (vc 64 (.slice ad xs.length c) xs) (rgI (List.set rs i.toNat ⟨ad,c,xs⟩)++I):=fun {rs} {i} h0 h=>by
 obtain ⟨k,rfl⟩:∃k:Nat,i=(k:Int):=⟨i.toNat,by omega⟩
 rw [Int.toNat_natCast]
 clear h0
 induction rs generalizing k with
 |nil=>simp at h;omega
 |cons r rs ih=>
  cases k with
  |zero=>exact At.head _ _ _
  |succ k=>exact At.tail _ (ih k (by simp at h;omega))
theorem rgI_mem{I:List Item}{rs:List (RowG Pt)}{i:Int}(h0:0<=i)(h:i<rs.length):vc 64 (.slice (e_ rs i).a (e_ rs i).xs.length (e_ rs i).c) (e_ rs i).xs∈rgI rs++I:=(At.rg (ad:=none) (c:=0) (xs:=[]) h0 h).mem
theorem Fit.nilrg:∀(rs:List (RowG Pt)),(∀r∈rs,r=default)->Fit κ I (rgI rs++I)
 |[],_=>Fk _
 |r::rs,h=>by
  refine A8 (Fit.nilrg rs λx hx=>h x (List.mem_cons_of_mem _ hx)) ?_
  show Fit κ _ (vc 64 (.slice r.a r.xs.length r.c) r.xs::_)
  rw [h r List.mem_cons_self]
  exact B9 _ _
theorem rows_tri{nd:Int}{es:List Pt}{rs:List (RowG Pt)}(hl:rs.length=es.length)(h:∀i:Nat,i<es.length->(e_ rs i).xs=triE nd es (e_ es i)):rs.map RowG.xs=trisE nd es:=by
 show rs.map RowG.xs=es.map (triE nd es)
 refine List.ext_getElem (by rw [List.length_map,List.length_map];exact hl) λi h1 h2=>?_
 rw [List.length_map] at h1
 have:=h i om
 rw [Db _ _ h1,Db _ _ om] at this
 rw [List.getElem_map,List.getElem_map];exact this
theorem not_take{es:List Pt}(h:es.Nodup){k:Nat}(hk:k<es.length):e_ es k∉es.take k:=by
 rw [Db es k hk]
 intro hm
 obtain ⟨i,hi,e⟩:=List.mem_iff_getElem.1 hm
 rw [List.length_take] at hi
 rw [List.getElem_take] at e
 exact (List.pairwise_iff_getElem.1 h) i k om hk om e
set_option maxHeartbeats 2000000 in
theorem Triangles_ok{nd:Int}{va:Value}{es:List Pt}(hl:Sl κ I va es)(hG:GrOk nd es)(hb:es.length<=1000000)(hT:TabRd κ I 0 tzCells):eu prog κ 276 [.agg #[e7 nd,va]] I (λr J=>∃a c rs,r = .slice a (rs.length) c/\rs.map RowG.xs=trisE nd es/\J=vc 65 (.slice a rs.length c) rs::(rgI rs++I)):=by
 refine Cg hl.le λhmax=>?_
 have hrng:=hG.rng
 refine Ce1 Tryz.func276 C C ?_
 refine Aj (Ge1 (Bg (cs:=[_,_]) C C C) λb1=>Ga C (Ah (Aj (Ge1 (Eff.makeMapE (α:=Pt) C) λmr2=>?_))))
 refine Ga C (Ah (Au (Aj (Gf fld48_1 C (Gl ty46 ?_)))))
 refine Gr (Cb (α:=Pt) (xs:=es) Bu C (Bj hl)) (Gm C (Ah (A6 (Ca (σ:=Nat) (λs=>([(1,.pointer (some ⟨b1,0,none⟩)),(3,.map (some mr2)),(15,va),(16,e7 ((es.length:Nat):Int)),(17,e7 ((s:Nat):Int))]:Env)) (λs=>mpE (α:=Pt) mr2 (es.take s)::e8 b1 [e7 nd,va] 48::I) (λs=>(s<=es.length)) (λs=>es.length - s) 0 (show ((0:Nat)<=es.length) from om) (Aa C (Aa C (Aa C (Aa C (Aa Cr Bq))))) A5 ?_))))
 rintro k hp
 have hk:=hp
 refine Aj (Gr (Bi C C) (Ah (Au (Bd C (λc18=>?_) (λc18=>?_)))))
 ·refine A4 (Ai (Au (A6 (Aj (Gm C (Gr (A2 (α:=Pt) (xs:=es) Bu ty135 C C (Bj hl) om om) (Gr (B7 (α:=Pt) (xs:=es) ty135 C (Bj hl) om om) (Ge1 (A9 ty135 C) λb3=>Ga C (Ge0 (Cs ty135) ?_)))))))))
  refine Ah (A0 (Gm C (Gl2 ty135 ?_)))
  refine Gm C (Ge0 (Eff.updateE (α:=Pt) (k:=(e_ es k)) Tryz.underlying329 D1 eqt135 ck135 C C C (by rw [List.length_take,Nat.min_eq_left om]) (not_take (asc_nodup hG.asc) om) am) ?_)
  exact Bf (Ak (Ai (Av (S5 1 3 15 16 17 C C C C C) (A0 (Gr (Rad C C) (Gm C (Bf (Ch ((k+1)) om (hI:=by (try dsimp only);exact (by rw [Di es k om];exact A5))))))))))
 ·refine Bp (Ac (Ac (Aw (Ai (Aj (Gf fld48_1 C ?_))))))
  have hk0:es.take k=es:=List.take_of_length_le om
  rw [hk0]
  refine Gl ty46 ?_
  refine Gr (Cb (α:=Pt) (xs:=es) Bu C (Bj hl)) (Ge2 (Cw (α:=(RowG Pt)) (n:=es.length) Dy ty65 C C C om om dc C) λad4 cp5=>?_)
  refine Ga C (Ah (Au (Aj (Gf fld48_1 C (Gl ty46 ?_)))))
  refine Gr (Cb (α:=Pt) (xs:=es) Bu C (Bj hl)) (Gm C (Ah (Av (S6 33 32 31 6 1 3 C C C C C C) (A6 (Ca (σ:=Nat×(List (RowG Pt))) (λs=>([(1,.pointer (some ⟨b1,0,none⟩)),(3,.map (some mr2)),(6,.slice ad4 (List.replicate es.length (default:(RowG Pt))).length cp5),(31,va),(32,e7 ((es.length:Nat):Int)),(33,e7 ((s.1:Nat):Int))]:Env)) (λs=>vc 65 (.slice ad4 (List.replicate es.length (default:(RowG Pt))).length cp5) (s.2)::mpE (α:=Pt) mr2 (es)::e8 b1 [e7 nd,va] 48::(rgI s.2++I)) (λs=>(s.1<=es.length)/\(s.2.length=es.length)/\(∀i:Nat,i<s.1->(e_ s.2 i).xs=triE nd es (e_ es i))/\(∀i:Nat,s.1<=i->i<es.length->(e_ s.2 i).xs=[])) (λs=>es.length - s.1) (0,List.replicate es.length (default:RowG Pt)) ⟨om,List.length_replicate,(λi h=>by omega),(λi h1 h2=>by rw [at_rep _ _ _ om om];rfl)⟩ (Aa C (Aa C (Aa C (Aa C (Aa C (Aa Cr Bq)))))) (A8 (Fit.nilrg (List.replicate es.length (default:RowG Pt)) (λr hr=>List.eq_of_mem_replicate hr)) Bv) ?_)))))
  rintro ⟨k2,rs⟩ hp
  dsimp only at hp ⊢
  obtain ⟨hk2,hrl,hdn,hrs⟩:=hp
  refine Aj (Gr (Bi C C) (Ah (Au (Bd C (λc34=>?_) (λc34=>?_)))))
  ·refine A4 (Ai (Au (A6 (Aj (Gm C (Gr (A2 (α:=Pt) (xs:=es) Bu ty135 C C (Bj hl) om om) (Gr (B7 (α:=Pt) (xs:=es) ty135 C (Bj hl) om om) (Ge1 (A9 ty135 C) λb6=>Ga C (Ge0 (Cs ty135) ?_)))))))))
   refine Ah (Aj (Gl2 ty48 ?_))
   refine Gf fld135_0 C (Gl ef ?_)
   refine Gf fld135_1 C (Gl ef ?_)
   refine Gc2 (Am call314 C C (CommonG_ok (nd:=nd) (Bj hl) ((e_ es k2).u) ((e_ es k2).v) (Bw hT Ay))) λad7 cp8=>?_
   refine Gr (Bz Ad C) (Gm C (Ah (Av (S11 45 44 43 7 8 1 3 6 31 32 33 C C C C C C C C C C C) (A6 (Ca (σ:=Nat×(List (RowG Pt))) (λs=>([(1,.pointer (some ⟨b1,0,none⟩)),(3,.map (some mr2)),(6,.slice ad4 (List.replicate es.length (default:(RowG Pt))).length cp5),(7,e7 ((k2:Nat):Int)),(8,.pointer (some ⟨b6,0,none⟩)),(31,va),(32,e7 ((es.length:Nat):Int)),(33,e7 ((k2:Nat):Int)),(43,.slice ad7 (commonG nd es ((e_ es ((k2:Nat):Int)).u) ((e_ es ((k2:Nat):Int)).v)).length cp8),(44,e7 ((((commonG nd es ((e_ es ((k2:Nat):Int)).u) ((e_ es ((k2:Nat):Int)).v)).length:Nat):Int))),(45,e7 ((s.1:Nat):Int))]:Env)) (λs=>vc 3 (.slice ad7 (commonG nd es ((e_ es ((k2:Nat):Int)).u) ((e_ es ((k2:Nat):Int)).v)).length cp8) (commonG nd es ((e_ es ((k2:Nat):Int)).u) ((e_ es ((k2:Nat):Int)).v))::e8 b6 [e7 ((e_ es ((k2:Nat):Int)).u),e7 ((e_ es ((k2:Nat):Int)).v)] 135::vc 65 (.slice ad4 (List.replicate es.length (default:(RowG Pt))).length cp5) (s.2)::mpE (α:=Pt) mr2 (es)::e8 b1 [e7 nd,va] 48::(rgI s.2++I)) (λs=>(s.1<=(commonG nd es (e_ es ((k2:Nat):Int)).u (e_ es ((k2:Nat):Int)).v).length)/\(s.2.length=es.length)/\(∀i:Nat,i<k2->(e_ s.2 i).xs=triE nd es (e_ es i))/\(∀i:Nat,k2<i->i<es.length->(e_ s.2 i).xs=[])/\((e_ s.2 ((k2:Nat):Int)).xs=((commonG nd es (e_ es ((k2:Nat):Int)).u (e_ es ((k2:Nat):Int)).v).take s.1).map (λw=>(⟨((es.idxOf (edgeP (e_ es ((k2:Nat):Int)).u w):Nat):Int),((es.idxOf (edgeP (e_ es ((k2:Nat):Int)).v w):Nat):Int)⟩:Pt)))) (λs=>(commonG nd es (e_ es ((k2:Nat):Int)).u (e_ es ((k2:Nat):Int)).v).length - s.1) (0,rs) ⟨om,hrl,hdn,(λi h1 h2=>hrs i om h2),(by rw [hrs k2 (Nat.le_refl _) om];simp)⟩ (Aa C (Aa C (Aa C (Aa C (Aa C (Aa C (Aa C (Aa C (Aa C (Aa C (Aa Cr Bq))))))))))) A5 ?_)))))
   rintro ⟨j,rs1⟩ hp
   dsimp only at hp ⊢
   obtain ⟨hj,hr1l,hd1,hq1,hcu⟩:=hp
   have hcl:=common_len hG (e:=(e_ es k2)) (Cq om om)
   have hwa:j<(commonG nd es (e_ es k2).u (e_ es k2).v).length->edgeP (e_ es k2).u (e_ (commonG nd es (e_ es k2).u (e_ es k2).v) (j:Int))∈es/\edgeP (e_ es k2).v (e_ (commonG nd es (e_ es k2).u (e_ es k2).v) (j:Int))∈es:=λh=>common_mem hG (Cq om om) (Cq om om)
   have hcul:((e_ rs1 k2).xs).length=j:=by rw [hcu,List.length_map,List.length_take];omega
   refine Aj (Gr (Bi C C) (Ah (Au (Bd C (λc46=>?_) (λc46=>?_)))))
   ·refine A4 (Ai (Au (A6 (Aj (Gr (A2 (α:=Int) (xs:=commonG nd es ((e_ es k2).u) ((e_ es k2).v)) Ad ef C C Bk om om) (Gr (B3 (xs:=commonG nd es ((e_ es k2).u) ((e_ es k2).v)) ef C Bk om om) (Ga C ?_)))))))
    have hw:=hwa om
    refine Ah (Av (S12 10 1 3 6 7 8 31 32 33 43 44 45 C C C C C C C C C C C C) (Aj (Gm C (Gf fld135_0 C (Gl ef ?_)))))
    refine Gm C (Gr (E9 C C) (Gf fld135_0 C (Gl ef ?_)))
    refine Gm C (Gr (D7 C C) (Gr (Bc (cells:=[_,_]) ty135 D1 pl135 C C) (Gr (Runs.lookupE (α:=Pt) (k:=(edgeP (e_ es k2).u (e_ (commonG nd es ((e_ es k2).u) ((e_ es k2).v)) (j:Int)))) (xs:=es) Tryz.underlying329 D1 eqt135 ck135 C C mm hw.1) (Ga C (Ah (Av (S13 11 10 1 3 6 7 8 31 32 33 43 44 45 C C C C C C C C C C C C C) (Aj (Gm C (Gf fld135_1 C (Gl ef ?_))))))))))
    refine Gm C (Gr (E9 C C) (Gf fld135_1 C (Gl ef ?_)))
    refine Gm C (Gr (D7 C C) (Gr (Bc (cells:=[_,_]) ty135 D1 pl135 C C) (Gr (Runs.lookupE (α:=Pt) (k:=(edgeP (e_ es k2).v (e_ (commonG nd es ((e_ es k2).u) ((e_ es k2).v)) (j:Int)))) (xs:=es) Tryz.underlying329 D1 eqt135 ck135 C C mm hw.2) (Ga C (Ah (Av (S13 12 11 1 3 6 7 8 31 32 33 43 44 45 C C C C C C C C C C C C C) (A0 (Gm C (Gm C (Gm C (Gm C (Gr (A2 (α:=(RowG Pt)) (xs:=rs1) Dy ty65 C C Bk om om) (Gr (Ct (α:=(RowG Pt)) (xs:=rs1) (u:= .slice (e_ rs1 k2).a (e_ rs1 k2).xs.length (e_ rs1 k2).c) ty65 C Bk om om C) (Gm C (Gm C (Gr (Runs.buildArr (cells:=[_,_]) ty64 Cm ef C C) (Ge1 (Cj (α:=Pt) (cs:=[_,_]) (xs:=[⟨((List.idxOf (edgeP (e_ es k2).u (e_ (commonG nd es ((e_ es k2).u) ((e_ es k2).v)) (j:Int))) es:Nat):Int),((List.idxOf (edgeP (e_ es k2).v (e_ (commonG nd es ((e_ es k2).u) ((e_ es k2).v)) (j:Int))) es:Nat):Int)⟩]) Dj ty64 C C dc dc C C C C) λad9=>?_)))))))))))))))))
    refine Ge2 (Cn (α:=Pt) (e:=64) (xs:=(e_ rs1 k2).xs) (ys:=([⟨((List.idxOf (edgeP (e_ es k2).u (e_ (commonG nd es ((e_ es k2).u) ((e_ es k2).v)) (j:Int))) es:Nat):Int),((List.idxOf (edgeP (e_ es k2).v (e_ (commonG nd es ((e_ es k2).u) ((e_ es k2).v)) (j:Int))) es:Nat):Int)⟩]:List Pt)) Dj ty64 C C C (by repeat (first|exact rgI_mem (rs:=rs1) (i:=(k2:Int)) om om|apply List.mem_cons_of_mem)) Bk lcn dc C (λ_ _=>(by repeat (first|exact At.rg (rs:=rs1) (i:=(k2:Int)) om om|apply At.tail)))) λad10 cp11=>?_
    refine Gr (A2 (α:=(RowG Pt)) (xs:=rs1) Dy ty65 C C Bk om om) (Ge0 (Cy (α:=(RowG Pt)) (xs:=rs1) (e:=65) (new:=(⟨ad10,cp11,((e_ rs1 k2).xs++([⟨((List.idxOf (edgeP (e_ es k2).u (e_ (commonG nd es ((e_ es k2).u) ((e_ es k2).v)) (j:Int))) es:Nat):Int),((List.idxOf (edgeP (e_ es k2).v (e_ (commonG nd es ((e_ es k2).u) ((e_ es k2).v)) (j:Int))) es:Nat):Int)⟩]:List Pt))⟩:RowG Pt)) ty65 C C C om om am) ?_)
    exact Bf (Ak (Ai (Av (S11 1 3 6 7 8 31 32 33 43 44 45 C C C C C C C C C C C) (A0 (Gr (Rad C C) (Gm C (Bf (Ch ((j+1),(List.set rs1 ((k2:Int)).toNat (⟨ad10,cp11,((e_ rs1 k2).xs++([⟨((List.idxOf (edgeP (e_ es k2).u (e_ (commonG nd es ((e_ es k2).u) ((e_ es k2).v)) (j:Int))) es:Nat):Int),((List.idxOf (edgeP (e_ es k2).v (e_ (commonG nd es ((e_ es k2).u) ((e_ es k2).v)) (j:Int))) es:Nat):Int)⟩]:List Pt))⟩:RowG Pt))) (by dsimp only;exact ⟨om,(by rw [List.length_set];exact hr1l),(λi h=>by rw [Dh _ _ _ _ om om om,if_neg om];exact hd1 i h),(λi h1 h2=>by rw [Dh _ _ _ _ om om om,if_neg om];exact hq1 i h1 h2),(by rw [Dh _ _ _ _ om om om,if_pos rfl,Di _ j om,List.map_append];show (e_ rs1 k2).xs++_=_;rw [hcu];rfl)⟩)))))))))
   ·exact Bp (Ac (Ac (Aw (Ak (Ai (A0 (Gr (Rad C C) (Gm C (Bf (Ch ((k2+1),(rs1)) (by dsimp only;exact ⟨om,hr1l,(λi h=>by by_cases e:i=k2;(· subst e;rw [hcu,List.take_of_length_le om];rfl);(· exact hd1 i om)),(λi h1 h2=>hq1 i om h2)⟩)))))))))))
  ·refine Bp (Ac (Ac (Aw (Ai (Aj (Gm C (Ga C (Ah (Az ?_)))))))))
   have hkl:k2=es.length:=by omega
   have hrt:=rows_tri hrl (λi h=>hdn i om)
   exact Ba C C (vc 65 (.slice ad4 rs.length cp5) rs::(rgI rs++I)) (by rw [hrl];simp only [List.length_replicate];exact Bv) ⟨ad4,cp5,rs,by rw [hrl];simp only [List.length_replicate],hrt,rfl⟩
end Go.Sl
