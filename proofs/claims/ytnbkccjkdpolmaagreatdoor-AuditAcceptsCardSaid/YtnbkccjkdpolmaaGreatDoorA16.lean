/- A part of the proofs of statements of this seat: contracts of functions, and the plain laws that they lean on. No conditions. -/
import Derived.Test.YtnbkccjkdpolmaaGreatDoorA15
set_option linter.unusedVariables false
set_option linter.unusedSimpArgs false
set_option linter.unusedSectionVars false
open Go.Proofs.Tryz (prog)
set_option maxHeartbeats 2000000
namespace Go.Sl
open Go.Proofs
set_option maxRecDepth 4000
variable{xs ys zs:List Int}{x:Int}{a0 b0:Option Addr}{c0 d0:Nat}
attribute [local irreducible] W G V D A Runs Eff
structure MgI (za zb:List Int) (i j:Nat) (out:List Int):Prop where
 hi:i<=za.length
 hj:j<=zb.length
 out:out=(za.take i).filter λx=>decide (x∉zb)
 lo:∀p:Nat,p<i->j<zb.length->e_ za p<e_ zb j
 up:∀q:Nat,q<j->i<za.length->e_ zb q<e_ za i
theorem ascI_at(h:zs.Pairwise (· < ·)){p q:Nat}(M:p<q)(hq:q<zs.length):e_ zs p<e_ zs q:=by
 rw [Cx zs p om,Cx zs q hq]
 exact (List.pairwise_iff_getElem.1 h) p q om hq M
theorem mem_atN(h:x∈zs):∃q:Nat,q<zs.length/\x=e_ zs q:=by
 obtain ⟨q,M,rfl⟩:=List.getElem_of_mem h
 exact ⟨q,M,(Cx zs q M).symm⟩
section
variable {za zb:List Int}{i j:Nat}{out:List Int}
theorem MgI.start:MgI za zb 0 0 []:=⟨Nat.zero_le _,Nat.zero_le _,rfl,λp h=>absurd h (Nat.not_lt_zero _),λq h=>absurd h (Nat.not_lt_zero _)⟩
theorem MgI.one(h:MgI za zb i j out)(ha:za.Pairwise (· < ·))(hb:zb.Pairwise (· < ·))(hi:i<za.length)(hc:j<zb.length->e_ za i<e_ zb j):MgI za zb (i+1) j (out++[e_ za i]):=by
 refine ⟨by omega,h.hj,?_,λp hp hj=>?_,λq M aa=>?_⟩
 ·have hn:e_ za i∉zb:=λhm=>by
   obtain ⟨q,M,e⟩:=mem_atN hm
   by_cases hqj:q<j
   ·have:=h.up q hqj hi;omega
   have h1:=hc om
   by_cases hqe:q=j
   ·rw [hqe] at e;omega
   have:=ascI_at hb (show j<q by omega) M;omega
  rw [Ct za i hi,List.filter_append,←h.out]
  simp [List.filter_cons,hn]
 ·by_cases hpi:p=i
  ·rw [hpi];exact hc hj
  exact h.lo p om hj
 have h1:=h.up q M hi
 have h2:=ascI_at ha (show i<i+1 by omega) aa
 omega
theorem MgI.two(h:MgI za zb i j out)(ha:za.Pairwise (· < ·))(hb:zb.Pairwise (· < ·))(hj:j<zb.length)(hc:i<za.length->e_ zb j<e_ za i):MgI za zb i (j+1) out:=by
 refine ⟨h.hi,by omega,h.out,λp hp aa=>?_,λq hq M=>?_⟩
 ·have h1:=h.lo p hp hj
  have h2:=ascI_at hb (show j<j+1 by omega) aa
  omega
 by_cases hqj:q=j
 ·rw [hqj];exact hc M
 exact h.up q om M
theorem MgI.both(h:MgI za zb i j out)(ha:za.Pairwise (· < ·))(hb:zb.Pairwise (· < ·))(hi:i<za.length)(hj:j<zb.length)(he:e_ za i=e_ zb j):MgI za zb (i+1) (j+1) out:=by
 refine ⟨by omega,by omega,?_,λp hp M=>?_,λq hq aa=>?_⟩
 ·have hm:e_ za i∈zb:=by rw [he];exact Bx om om
  rw [Ct za i hi,List.filter_append,←h.out]
  simp [List.filter_cons,hm]
 ·have h2:=ascI_at hb (show j<j+1 by omega) M
  by_cases hpi:p=i
  ·rw [hpi,he];exact h2
  have:=h.lo p om hj;omega
 have h2:=ascI_at ha (show i<i+1 by omega) aa
 by_cases hqj:q=j
 ·rw [hqj,←he];exact h2
 have:=h.up q om hi;omega
end
def ascZ(xs:List Int):List Int:=compG (sortZ xs) (sortZ xs).length
theorem ascZ_asc(xs:List Int):(ascZ xs).Pairwise (· < ·):=compZ_asc (sortZ_asc xs)
theorem mem_ascZ:x∈ascZ xs↔x∈xs:=(mem_compZ (sortZ_asc xs)).trans mem_sortZ
theorem ascZ_len(xs:List Int):(ascZ xs).length<=xs.length:=Nat.le_trans (compG_len _ _) (Nat.le_of_eq (Fa xs))
def minusZ(xs ys:List Int):List Int:=(ascZ xs).filter λx=>decide (x∉ascZ ys)
theorem minusZ_nil:(minusZ xs ys).length=0↔∀x∈xs,x∈ys:=by
 unfold minusZ
 rw [List.length_eq_zero_iff,List.filter_eq_nil_iff]
 constructor
 ·intro h x M
  have:=h x (mem_ascZ.2 M)
  exact mem_ascZ.1<|Classical.byContradiction λhn=>this<|decide_eq_true hn
 intro h x M hd
 exact of_decide_eq_true hd<|mem_ascZ.2<|h x<|mem_ascZ.1 M
theorem CompactI_n{κ:Ctx}{I:List Item}{a:Option Addr}{n c:Nat}(hn:n=xs.length)(M:xs.length<1000000000000):eu prog κ 252 [.slice a n c] (vc 3 (.slice a n c) xs::I) λr J=>r = .slice a (compG xs xs.length).length c/\J=vc 3 (.slice a (compG xs xs.length).length c) (compG xs xs.length)::I:=by
 subst hn;exact CompactI_ok M
theorem Minus1_b{κ:Ctx}{I:List Item}(p q:Bool):eu prog κ 216 [.bool p,.bool q] I (λr J=>r = .bool (!q)/\I=J):=by
 refine Ce2 Tryz.func216 C C<|Z ?_
 exact Ai C C I Ah ⟨rfl,rfl⟩
theorem Minus1_d{κ:Ctx}{I:List Item}(p:Bool)(q:Prop)[Decidable q]:eu prog κ 216 [.bool p,.bool (decide q)] I λr J=>r = .bool (decide (¬q))/\I=J:=
 (Minus1_b p<|decide q).mono λr J h=>⟨by rw [h.1,decide_not],h.2⟩
theorem MergedI_ok{κ:Ctx}{I:List Item}(hl:Sl κ I (.slice a0 xs.length c0) xs)(hm:Sl κ I (.slice b0 ys.length d0) ys)(hx:xs.length<=100000)(hy:ys.length<=100000):eu prog κ 215 [.slice a0 xs.length c0,.slice b0 ys.length d0,.func (.func 216) #[] #[]] I (λr J=>∃a c,r = .slice a (minusZ xs ys).length c/\J=vc 3 (.slice a (minusZ xs ys).length c) (minusZ xs ys)::I):=by
 refine Ce3 Tryz.func215 C C ?_
 refine Ar<|Ga C<|As<|Ar<|Gm C<|Gc2 (Ac c_ C C<|CloneI (xs:=xs) (Au hl) om) λak ah=>?_
 refine Gm C<|Gc2 (Ac c_ C C<|CloneI (xs:=ys) (Au hm) om) λai aj=>?_
 refine Ga C<|Ga C<|As<|Ar<|Gm C<|Gc1 (Ac c_ C C<|Cv (J:=vc 3 (.slice ak xs.length ah) (xs)::vc 3 (.slice ai ys.length aj) (ys)::I) Bb<|sortI_ok om) ?_
 refine As<|Ar<|Gm C<|Gc1 (Ac c_ C C<|Cv (J:=vc 3 (.slice ai ys.length aj) (ys)::vc 3 (.slice ak xs.length ah) (sortZ xs)::I) Bb<|sortI_ok om) ?_
 refine As<|Bg (S3 1 0 2 C C C)<|Ar<|Gm C<|G.e (Ac c_ C C<|Cv (J:=vc 3 (.slice ak xs.length ah) (sortZ xs)::vc 3 (.slice ai ys.length aj) (sortZ ys)::I) Bb<|CompactI_n (xs:=sortZ xs) (by first|rfl|exact (Fa _).symm)<|by first|omega|(rw [Fa];omega)) ?_
 rintro _ _ ⟨_,_,⟨rfl,rfl⟩,rfl,rfl⟩
 refine Gm C<|G.e (Ac c_ C C<|Cv (J:=vc 3 (.slice ai ys.length aj) (sortZ ys)::vc 3 (.slice ak (ascZ xs).length ah) (ascZ xs)::I) Bb<|CompactI_n (xs:=sortZ ys) (by first|rfl|exact (Fa _).symm)<|by first|omega|(rw [Fa];omega)) ?_
 rintro _ _ ⟨_,_,⟨rfl,rfl⟩,rfl,rfl⟩
 show G prog κ _ _ _ _ ([(22,.slice ai (ascZ ys).length aj),(21,.slice ai ys.length aj),(20,.slice ak (ascZ xs).length ah),(19,.slice ak xs.length ah),(1,.slice ai ys.length aj),(0,.slice ak xs.length ah),(2,.func (.func 216) #[] #[])]:Env) (vc 3 (.slice ai (ascZ ys).length aj) (ascZ ys)::vc 3 (.slice ak (ascZ xs).length ah) (ascZ xs)::I)
 refine Ga C<|Ga C<|As<|Ar<|Ga C ?_
 generalize hza:ascZ xs=za
 generalize hzb:ascZ ys=zb
 have be:za.length<=xs.length:=by rw [←hza];exact ascZ_len xs
 have bf:zb.length<=ys.length:=by rw [←hzb];exact ascZ_len ys
 have aa:za.Pairwise (· < ·):=by rw [←hza];exact ascZ_asc xs
 have M:zb.Pairwise (· < ·):=by rw [←hzb];exact ascZ_asc ys
 have a5:Sl κ [vc 3 (.slice ak za.length ah) za] (.slice ak (List.drop 0 za).length ah) (List.drop 0 za):=Em List.mem_cons_self
 have ba:Sl κ [vc 3 (.slice ai zb.length aj) zb] (.slice ai (List.drop 0 zb).length aj) (List.drop 0 zb):=Em List.mem_cons_self
 refine As<|A5<|Bk<|Cn (σ:=Nat×Nat×(Option Addr)×Nat×(Option Addr)×Nat×(Option Addr)×Nat×(List Int)) (λs=>([(0,.slice s.2.2.1 (List.drop s.1 za).length s.2.2.2.1),(1,.slice s.2.2.2.2.1 (List.drop s.2.1 zb).length s.2.2.2.2.2.1),(2,.func (.func 216) #[] #[]),(7,.slice s.2.2.2.2.2.2.1 s.2.2.2.2.2.2.2.2.length s.2.2.2.2.2.2.2.1)]:Env)) (λs=>vc 3 (.slice s.2.2.2.2.2.2.1 s.2.2.2.2.2.2.2.2.length s.2.2.2.2.2.2.2.1) (s.2.2.2.2.2.2.2.2)::vc 3 (.slice ai zb.length aj) (zb)::vc 3 (.slice ak za.length ah) (za)::I) (λs=>(MgI za zb s.1 s.2.1 s.2.2.2.2.2.2.2.2)/\(Sl κ [vc 3 (.slice ak za.length ah) za] (.slice s.2.2.1 (List.drop s.1 za).length s.2.2.2.1)<|List.drop s.1 za)/\(Sl κ [vc 3 (.slice ai zb.length aj) zb] (.slice s.2.2.2.2.1 (List.drop s.2.1 zb).length s.2.2.2.2.2.1)<|List.drop s.2.1 zb)) (λs=>(za.length - s.1)+(zb.length - s.2.1)) (0,0,ak,ah,ai,aj,none,0,[]) (show (MgI za zb (0:Nat) (0:Nat) ([]:List Int))/\(Sl κ [vc 3 (.slice ak za.length ah) za] (.slice (ak:Option Addr) (List.drop (0:Nat) za).length (ah:Nat))<|List.drop (0:Nat) za)/\(Sl κ [vc 3 (.slice ai zb.length aj) zb] (.slice (ai:Option Addr) (List.drop (0:Nat) zb).length (aj:Nat))<|List.drop (0:Nat) zb) from ⟨MgI.start,a5,ba⟩) (Ab (El C<|by first|rfl|simp)<|Ab (El C<|by first|rfl|simp)<|Ab C<|Ab (El C<|by first|rfl|simp) Bs) (Bw _ _) ?_
 rintro ⟨i,j,ea,ec,fa,fc,a,c,out⟩ hp
 dsimp only at hp ⊢
 obtain ⟨hM,ad,ab⟩:=hp
 have bj:=hM.hi
 have bi:=hM.hj
 have bo:(List.drop i za).length=za.length - i:=List.length_drop
 have bm:(List.drop j zb).length=zb.length - j:=List.length_drop
 have bp:out.length<=i:=by rw [hM.out];refine Nat.le_trans (List.length_filter_le _ _) ?_;rw [List.length_take];omega
 have a7:e_ (List.drop i za) 0=e_ za i:=at_zero_drop za i
 have bq:e_ (List.drop j zb) 0=e_ zb j:=at_zero_drop zb j
 refine A5<|E8 (σ:=Bool) (λs=>([(0,.slice ea (List.drop i za).length ec),(1,.slice fa (List.drop j zb).length fc),(2,.func (.func 216) #[] #[]),(7,.slice a out.length c),(30,.bool<|decide<|s=true)]:Env)) (λs=>vc 3 (.slice a out.length c) (out)::vc 3 (.slice ai zb.length aj) (zb)::vc 3 (.slice ak za.length ah) (za)::I) (λs=>(s=true↔(i<za.length\/j<zb.length))) ?_ ?_
 ·refine Be (Gm C<|Gr (Ca Aa C)<|Gr (Df C C)<|Gm C<|A6 (d:=26) C (λa3=>?_)<|λa3=>?_)
  ·exact eb<|eb<|eb<|Gr (A2 C C)<|Bi<|Cg ((true))<|by first|exact ⟨λ_=>by omega,λ_=>rfl⟩|exact ⟨λh=>(by cases h),λh=>by exfalso;omega⟩|(rw [decide_eq_true_eq];omega)
  exact e9 (Af C)<|e9 (Ca Aa C)<|e9 (Df C C)<|Gr (Ao C C)<|Bi<|Cg ((decide<|0<(((List.drop j zb).length:Nat):Int)))<|by first|exact ⟨λ_=>by omega,λ_=>rfl⟩|exact ⟨λh=>(by cases h),λh=>by exfalso;omega⟩|(rw [decide_eq_true_eq];omega)
 rintro pk hp
 have au:(pk=true↔(i<za.length\/j<zb.length)):=hp
 refine Ap C (λar=>?_)<|λar=>?_
 ·refine Bt (Ay<|Bk<|E8 (σ:=Bool) (λs=>([(0,.slice ea (List.drop i za).length ec),(1,.slice fa (List.drop j zb).length fc),(2,.func (.func 216) #[] #[]),(7,.slice a out.length c),(8,.bool<|decide<|s=true)]:Env)) (λs=>vc 3 (.slice a out.length c) (out)::vc 3 (.slice ai zb.length aj) (zb)::vc 3 (.slice ak za.length ah) (za)::I) (λs=>(s=true↔(zb.length<=j\/(i<za.length/\e_ za i<=e_ zb j)))) ?_ ?_)
  ·refine A4 mixed (Cr 18<|Dr 0 C (Af C) ?_)
   have e0:=au.1 ar
   refine Dr 1 C (Ca Aa C)<|Dr 2 C (Fu C C)<|Dr 3 C (Af C)<|Du (d:=34) C (λbb=>?_)<|λbb=>?_
   ·exact Dpo 4 C<|Dpo 5 C<|Dpo 6 C<|Dpo 7 C<|Dpu 8 C<|Dpu 9 C<|Dpu 10 C<|Dpu 11 C<|Dpu 12 C<|Dpu 13 C<|Dpu 14 C<|Dpo 15 C<|Dr 16 C (A2 C C)<|Dr 17 C (A0 C)<|Dz<|Cg ((true))<|by first|exact ⟨λ_=>by omega,λ_=>rfl⟩|exact ⟨λh=>(by cases h),λh=>by exfalso;omega⟩|(rw [decide_eq_true_eq];omega)
   refine Dro 4 C (Af C)<|Dro 5 C (Ca Aa C)<|Dro 6 C (Df C C)<|Dro 7 C (Af C)<|Du (d:=38) C (λa6=>?_)<|λa6=>?_
   ·exact Dro 8 C (Af C)<|Dro 9 C (Az (α:=Int) (xs:=List.drop i za) Aa ef C C (Bm ad f1) om om)<|Dro 10 C (Bj (xs:=List.drop i za) ef C (Bm ad f1) om om)<|Dro 11 C (Af C)<|Dro 12 C (Az (α:=Int) (xs:=List.drop j zb) Aa ef C C (Bm ab f1) om om)<|Dro 13 C (Bj (xs:=List.drop j zb) ef C (Bm ab f1) om om)<|Dro 14 C (Runs.leq C C)<|Dro 15 C (A2 C C)<|Dr 16 C (Ao C C)<|Dr 17 C (A0 C)<|Dz<|Cg ((decide<|(e_ (List.drop i za) 0)<=(e_ (List.drop j zb) 0)))<|by first|exact ⟨λ_=>by omega,λ_=>rfl⟩|exact ⟨λh=>(by cases h),λh=>by exfalso;omega⟩|(rw [decide_eq_true_eq];omega)
   exact Dpo 8 C<|Dpo 9 C<|Dpo 10 C<|Dpo 11 C<|Dpo 12 C<|Dpo 13 C<|Dpo 14 C<|Dro 15 C (Ao C C)<|Dr 16 C (Ao C C)<|Dr 17 C (A0 C)<|Dz<|Cg ((false))<|by first|exact ⟨λ_=>by omega,λ_=>rfl⟩|exact ⟨λh=>(by cases h),λh=>by exfalso;omega⟩|(rw [decide_eq_true_eq];omega)
  rintro pf hp
  have ap:(pf=true↔(zb.length<=j\/(i<za.length/\e_ za i<=e_ zb j))):=hp
  refine E8 (σ:=Bool) (λs=>([(0,.slice ea (List.drop i za).length ec),(1,.slice fa (List.drop j zb).length fc),(2,.func (.func 216) #[] #[]),(7,.slice a out.length c),(8,.bool<|decide<|pf=true),(9,.bool<|decide<|s=true)]:Env)) (λs=>vc 3 (.slice a out.length c) (out)::vc 3 (.slice ai zb.length aj) (zb)::vc 3 (.slice ak za.length ah) (za)::I) (λs=>(s=true↔(za.length<=i\/(j<zb.length/\e_ zb j<=e_ za i)))) ?_ ?_
  ·refine A4 mixed (Cr 18<|Dr 0 C (Af C) ?_)
   have e0:=au.1 ar
   refine Dr 1 C (Ca Aa C)<|Dr 2 C (Fu C C)<|Dr 3 C (Af C)<|Du (d:=51) C (λa4=>?_)<|λa4=>?_
   ·exact Dpo 4 C<|Dpo 5 C<|Dpo 6 C<|Dpo 7 C<|Dpu 8 C<|Dpu 9 C<|Dpu 10 C<|Dpu 11 C<|Dpu 12 C<|Dpu 13 C<|Dpu 14 C<|Dpo 15 C<|Dr 16 C (A2 C C)<|Dr 17 C (A0 C)<|Dz<|Cg ((true))<|by first|exact ⟨λ_=>by omega,λ_=>rfl⟩|exact ⟨λh=>(by cases h),λh=>by exfalso;omega⟩|(rw [decide_eq_true_eq];omega)
   refine Dro 4 C (Af C)<|Dro 5 C (Ca Aa C)<|Dro 6 C (Df C C)<|Dro 7 C (Af C)<|Du (d:=55) C (λbc=>?_)<|λbc=>?_
   ·exact Dro 8 C (Af C)<|Dro 9 C (Az (α:=Int) (xs:=List.drop j zb) Aa ef C C (Bm ab f1) om om)<|Dro 10 C (Bj (xs:=List.drop j zb) ef C (Bm ab f1) om om)<|Dro 11 C (Af C)<|Dro 12 C (Az (α:=Int) (xs:=List.drop i za) Aa ef C C (Bm ad f1) om om)<|Dro 13 C (Bj (xs:=List.drop i za) ef C (Bm ad f1) om om)<|Dro 14 C (Runs.leq C C)<|Dro 15 C (A2 C C)<|Dr 16 C (Ao C C)<|Dr 17 C (A0 C)<|Dz<|Cg ((decide<|(e_ (List.drop j zb) 0)<=(e_ (List.drop i za) 0)))<|by first|exact ⟨λ_=>by omega,λ_=>rfl⟩|exact ⟨λh=>(by cases h),λh=>by exfalso;omega⟩|(rw [decide_eq_true_eq];omega)
   exact Dpo 8 C<|Dpo 9 C<|Dpo 10 C<|Dpo 11 C<|Dpo 12 C<|Dpo 13 C<|Dpo 14 C<|Dro 15 C (Ao C C)<|Dr 16 C (Ao C C)<|Dr 17 C (A0 C)<|Dz<|Cg ((false))<|by first|exact ⟨λ_=>by omega,λ_=>rfl⟩|exact ⟨λh=>(by cases h),λh=>by exfalso;omega⟩|(rw [decide_eq_true_eq];omega)
  rintro ps hp
  have ao:(ps=true↔(za.length<=i\/(j<zb.length/\e_ zb j<=e_ za i))):=hp
  refine Ar<|Ga C ?_
  have e0:=au.1 ar
  refine As<|A5<|Ar<|Gm C ?_
  have bk:pf=true\/ps=true:=by rw [ap,ao];omega
  refine As<|Ap C (λaq=>?_)<|λaq=>?_
  ·refine A4 mixed (Cr 7<|Dr 0 C (Af C) ?_)
   have e1:=ap.1 aq
   refine Dr 1 C (Az (α:=Int) (xs:=List.drop i za) Aa ef C C (Bm ad f1) om om)<|Dr 2 C (Bj (xs:=List.drop i za) ef C (Bm ad f1) om om) ?_
   rw [a7]
   refine Dr 3 C (Af C)<|Dr 4 C (Eb (α:=Int) (xs:=List.drop i za) (l:=1) Aa ef C C om (Bm ad f1) om)<|Dr 5 C (A0 C)<|Dr 6 C (A0 C)<|Dz<|Ay<|Bg (S7 0 10 1 2 7 8 9 C C C C C C C)<|A5<|Ar<|Gm C<|As<|Ap C (λae=>?_)<|λae=>?_
   ·refine A4 mixed (Cr 7<|Dr 0 C (Af C) ?_)
    have e2:=ao.1 ae
    refine Dr 1 C (Az (α:=Int) (xs:=List.drop j zb) Aa ef C C (Bm ab f1) om om)<|Dr 2 C (Bj (xs:=List.drop j zb) ef C (Bm ab f1) om om)<|Dr 3 C (Af C)<|Dr 4 C (Eb (α:=Int) (xs:=List.drop j zb) (l:=1) Aa ef C C om (Bm ab f1) om)<|Dr 5 C (A0 C)<|Dr 6 C (A0 C)<|Dz<|Ay<|Bg (S7 1 10 0 2 7 8 9 C C C C C C C)<|Ar<|Gm C ?_
    first|have e1:=ap.1 aq|have e1:=mt ap.2 aq
    first|have e2:=ao.1 ae|have e2:=mt ao.2 ae
    refine Gm C<|Gm C<|Gc0 (Cu c_ C C C<|Minus1_d (decide<|pf=true)<|ps=true) ?_
    refine As<|Ap C (λan=>?_)<|λan=>?_
    ·refine Be (Gm C<|Gm C<|Ge1 (B9 (α:=Int) (cs:=[_]) (xs:=[e_ (List.drop j zb) 0]) Aa ef C C dc dc C C C C) λbn=>?_)
     refine Ge2 (B4 (α:=Int) (e:=3) (xs:=out) (ys:=([e_ (List.drop j zb) 0]:List Int)) Aa ef C C C mm A7 lcn dc C<|λ_ _=>am) λa9 a1=>?_
     exact Ga C<|Bi<|Av<|B5 ((i+1),(j+1),((adrop ea ec 1<|Enc.sz Int)),((ec - 1)),((adrop fa fc 1<|Enc.sz Int)),((fc - 1)),(a9),(a1),(out++([e_ (List.drop j zb) 0]:List Int)))<|by dsimp only;exact ⟨(by first|exact hM.one aa M om om|exact hM.two aa M om om|exact hM.both aa M om om om|(exfalso;first|omega|exact an ae)),(by first|exact ad|(have h:=C8 (l:=1) ad om;rw [List.drop_drop] at h;exact h)),(by first|exact ab|(have h:=C8 (l:=1) ab om;rw [List.drop_drop] at h;exact h))⟩
    exact Bt<|Av<|B5 ((i+1),(j+1),((adrop ea ec 1<|Enc.sz Int)),((ec - 1)),((adrop fa fc 1<|Enc.sz Int)),((fc - 1)),(a),(c),(out))<|by dsimp only;exact ⟨(by first|exact hM.one aa M om om|exact hM.two aa M om om|exact hM.both aa M om om om|(exfalso;first|omega|exact an ae)),(by first|exact ad|(have h:=C8 (l:=1) ad om;rw [List.drop_drop] at h;exact h)),(by first|exact ab|(have h:=C8 (l:=1) ab om;rw [List.drop_drop] at h;exact h))⟩
   refine Bt<|Ay<|Ar<|Gm C ?_
   first|have e1:=ap.1 aq|have e1:=mt ap.2 aq
   first|have e2:=ao.1 ae|have e2:=mt ao.2 ae
   refine Gm C<|Gm C<|Gc0 (Cu c_ C C C<|Minus1_d (decide<|pf=true)<|ps=true) ?_
   refine As<|Ap C (λan=>?_)<|λan=>?_
   ·refine Be (Gm C<|Gm C<|Ge1 (B9 (α:=Int) (cs:=[_]) (xs:=[e_ za i]) Aa ef C C dc dc C C C C) λbr=>?_)
    refine Ge2 (B4 (α:=Int) (e:=3) (xs:=out) (ys:=([e_ za i]:List Int)) Aa ef C C C mm A7 lcn dc C<|λ_ _=>am) λa8 ax=>?_
    exact Ga C<|Bi<|Av<|B5 ((i+1),(j),((adrop ea ec 1<|Enc.sz Int)),((ec - 1)),(fa),(fc),(a8),(ax),(out++([e_ za i]:List Int)))<|by dsimp only;exact ⟨(by first|exact hM.one aa M om om|exact hM.two aa M om om|exact hM.both aa M om om om|(exfalso;first|omega|exact an ae)),(by first|exact ad|(have h:=C8 (l:=1) ad om;rw [List.drop_drop] at h;exact h)),(by first|exact ab|(have h:=C8 (l:=1) ab om;rw [List.drop_drop] at h;exact h))⟩
   exact Bt<|Av<|B5 ((i+1),(j),((adrop ea ec 1<|Enc.sz Int)),((ec - 1)),(fa),(fc),(a),(c),(out))<|by dsimp only;exact ⟨(by first|exact hM.one aa M om om|exact hM.two aa M om om|exact hM.both aa M om om om|(exfalso;first|omega|exact an ae)),(by first|exact ad|(have h:=C8 (l:=1) ad om;rw [List.drop_drop] at h;exact h)),(by first|exact ab|(have h:=C8 (l:=1) ab om;rw [List.drop_drop] at h;exact h))⟩
  refine Bt<|Ay<|A5<|Ar<|Gm C<|As<|Ap C (λae=>?_)<|λae=>?_
  ·refine A4 mixed (Cr 7<|Dr 0 C (Af C) ?_)
   have e2:=ao.1 ae
   refine Dr 1 C (Az (α:=Int) (xs:=List.drop j zb) Aa ef C C (Bm ab f1) om om)<|Dr 2 C (Bj (xs:=List.drop j zb) ef C (Bm ab f1) om om)<|Dr 3 C (Af C)<|Dr 4 C (Eb (α:=Int) (xs:=List.drop j zb) (l:=1) Aa ef C C om (Bm ab f1) om)<|Dr 5 C (A0 C)<|Dr 6 C (A0 C)<|Dz<|Ay<|Bg (S7 1 10 0 2 7 8 9 C C C C C C C)<|Ar<|Gm C ?_
   first|have e1:=ap.1 aq|have e1:=mt ap.2 aq
   first|have e2:=ao.1 ae|have e2:=mt ao.2 ae
   refine Gm C<|Gm C<|Gc0 (Cu c_ C C C<|Minus1_d (decide<|pf=true)<|ps=true) ?_
   refine As<|Ap C (λan=>?_)<|λan=>?_
   ·refine Be (Gm C<|Gm C<|Ge1 (B9 (α:=Int) (cs:=[_]) (xs:=[e_ (List.drop j zb) 0]) Aa ef C C dc dc C C C C) λbh=>?_)
    refine Ge2 (B4 (α:=Int) (e:=3) (xs:=out) (ys:=([e_ (List.drop j zb) 0]:List Int)) Aa ef C C C mm A7 lcn dc C<|λ_ _=>am) λav az=>?_
    exact Ga C<|Bi<|Av<|B5 ((i),(j+1),(ea),(ec),((adrop fa fc 1<|Enc.sz Int)),((fc - 1)),(av),(az),(out++([e_ (List.drop j zb) 0]:List Int)))<|by dsimp only;exact ⟨(by first|exact hM.one aa M om om|exact hM.two aa M om om|exact hM.both aa M om om om|(exfalso;first|omega|exact an ae)),(by first|exact ad|(have h:=C8 (l:=1) ad om;rw [List.drop_drop] at h;exact h)),(by first|exact ab|(have h:=C8 (l:=1) ab om;rw [List.drop_drop] at h;exact h))⟩
   exact Bt<|Av<|B5 ((i),(j+1),(ea),(ec),((adrop fa fc 1<|Enc.sz Int)),((fc - 1)),(a),(c),(out))<|by dsimp only;exact ⟨(by first|exact hM.one aa M om om|exact hM.two aa M om om|exact hM.both aa M om om om|(exfalso;first|omega|exact an ae)),(by first|exact ad|(have h:=C8 (l:=1) ad om;rw [List.drop_drop] at h;exact h)),(by first|exact ab|(have h:=C8 (l:=1) ab om;rw [List.drop_drop] at h;exact h))⟩
  refine Bt<|Ay<|Ar<|Gm C ?_
  first|have e1:=ap.1 aq|have e1:=mt ap.2 aq
  first|have e2:=ao.1 ae|have e2:=mt ao.2 ae
  refine Gm C<|Gm C<|Gc0 (Cu c_ C C C<|Minus1_d (decide<|pf=true)<|ps=true) ?_
  refine As<|Ap C (λan=>?_)<|λan=>?_
  ·refine Be (Gm C<|Gm C<|Ge1 (B9 (α:=Int) (cs:=[_]) (xs:=[0]) Aa ef C C dc dc C C C C) λbg=>?_)
   refine Ge2 (B4 (α:=Int) (e:=3) (xs:=out) (ys:=([0]:List Int)) Aa ef C C C mm A7 lcn dc C<|λ_ _=>am) λaw ay=>?_
   exact Ga C<|Bi<|Av<|B5 ((i),(j),(ea),(ec),(fa),(fc),(aw),(ay),(out++([0]:List Int)))<|by dsimp only;exact ⟨(by first|exact hM.one aa M om om|exact hM.two aa M om om|exact hM.both aa M om om om|(exfalso;first|omega|exact an ae)),(by first|exact ad|(have h:=C8 (l:=1) ad om;rw [List.drop_drop] at h;exact h)),(by first|exact ab|(have h:=C8 (l:=1) ab om;rw [List.drop_drop] at h;exact h))⟩
  exact Bt<|Av<|B5 ((i),(j),(ea),(ec),(fa),(fc),(a),(c),(out))<|by dsimp only;exact ⟨(by first|exact hM.one aa M om om|exact hM.two aa M om om|exact hM.both aa M om om om|(exfalso;first|omega|exact an ae)),(by first|exact ad|(have h:=C8 (l:=1) ad om;rw [List.drop_drop] at h;exact h)),(by first|exact ab|(have h:=C8 (l:=1) ab om;rw [List.drop_drop] at h;exact h))⟩
 refine C7<|A9<|A9<|B3<|Ay<|Ar<|Gm C<|Ga C<|As<|Bf ?_
 have e0:=mt au.2 ar
 have hE:out=minusZ xs ys:=by rw [hM.out,show i=za.length by omega,List.take_length];unfold minusZ;rw [hza,hzb]
 exact Ai C C (vc 3 (.slice a (minusZ xs ys).length c) (minusZ xs ys)::I) (by rw [←hE];exact Bb) ⟨a,c,by rw [←hE],rfl⟩
theorem MinusI_ok{κ:Ctx}{I:List Item}(hl:Sl κ I (.slice a0 xs.length c0) xs)(hm:Sl κ I (.slice b0 ys.length d0) ys)(hx:xs.length<=100000)(hy:ys.length<=100000):eu prog κ 143 [.slice a0 xs.length c0,.slice b0 ys.length d0] I (λr J=>∃a c,r = .slice a (minusZ xs ys).length c/\J=vc 3 (.slice a (minusZ xs ys).length c) (minusZ xs ys)::I):=by
 refine Ce2 Tryz.func143 C C<|Z ?_
 refine Gc2 (Ac c_ C C<|MergedI_ok (Au hl) (Au hm) om om) λM aa=>?_
 exact Ga C<|As<|Bf<|Ai C C (vc 3 (.slice M (minusZ xs ys).length aa) (minusZ xs ys)::I) Aj ⟨M,aa,rfl,rfl⟩
theorem WithinI_ok{κ:Ctx}{I:List Item}{M:Option Addr}(hl:Sl κ I (.slice M xs.length c0) xs)(hm:Sl κ I (.slice b0 ys.length d0) ys)(hx:xs.length<=100000)(hy:ys.length<=100000):eu prog κ 83 [.slice M xs.length c0,.slice b0 ys.length d0] I (λr J=>r = .bool (decide (∀x∈xs,x∈ys))/\I=J):=by
 refine Ce2 Tryz.func83 C C<|Z ?_
 refine Gc2 (Ac c_ C C<|MinusI_ok (Au hl) (Au hm) om om) λaa ab=>Z ?_
 exact Ai C C I Ah ⟨by rw [decide_eq_decide.2 (show (((minusZ xs ys).length:Nat):Int)=0↔∀x∈xs,x∈ys from by rw [←minusZ_nil];omega)],rfl⟩
variable {κ:Ctx}{I:List Item}
theorem Nothing_ok  :
    eu prog κ 137 [] I (λr J=>r = .agg #[.slice none 0 0,e7 0,e7 1,e7 1,.slice none 0 0]/\I=J):=by
 refine Ce0 Tryz.func137 C C ?_
 refine Ar<|Ge1 (Am ty118 C) λb1=>Z ?_
 refine Ge0 (Dl ty118) ?_
 exact As<|Bf<|B0 C ty118 C mm C I Ah ⟨rfl,rfl⟩
structure BestR (nd:Int) (es:List Pt) (N D:Int) (B:BitVec 64):Prop where
 err:checkG nd es≠0->N=0/\D=0/\B=0#64
 none:checkG nd es=0->nd=0->N=0/\D=1/\B=0#64
 some:checkG nd es=0->nd≠0->DensR nd es N D B
theorem BestD_ok{nd:Int}{ea:Option Addr}{ec:Nat}{es:List Pt}(hl:Sl κ I (.slice ea es.length ec) es)(hT:TabRd κ I 0 tzCells):eu prog κ 80 [.agg #[e7 nd,.slice ea es.length ec]] I (λr J=>∃a c B a2 c2 parts N D E,r = .tuple #[.agg #[.slice a (eo B).length c,e7 N,e7 D,e7 E,.slice a2 (parts:List Int).length c2],e7 (checkG nd es)]/\(BestR nd es N D B/\SplitB nd es N D E parts)/\J=vc 3 (.slice a (eo B).length c) (eo B)::vc 3 (.slice a2 parts.length c2) parts::I):=by
 refine Ce1 Tryz.func80 C C ?_
 refine Ar<|Ge1 (Al (cs:=[_,_]) C C C) λb1=>Ge1 (Am ty118 C) λb2=>Z ?_
 refine Gc0 (Ac c_ C C<|CheckGen_ok<|Au hl)<|Z ?_
 refine A6 (d:=11) C (λad=>Z ?_)<|λad=>Z ?_
 ·refine Ap C (λM=>Z ?_) (λM=>?_)
  ·refine Ge0 (Dl ty118) (Z ?_)
   exact D5 C ty118 C C mm C (vc 3 (.slice none (eo 0#64).length 0) (eo 0#64)::vc 3 (.slice none ([]:List Int).length 0) ([]:List Int)::I) (by rw [Dh];exact Ak (show Fit κ _ I from Ah)<|Ak (Bw _ _)<|Bw _ _) ⟨none,0,0#64,none,0,[],0,0,0,by rw [Dh];rfl,⟨⟨λ_=>⟨rfl,rfl,rfl⟩,λh=>absurd h M,λh=>absurd h M⟩,λh=>absurd h M⟩,rfl⟩
  refine Bt<|Ay<|Ar<|Gc0 (Ac c_ C C Nothing_ok) ?_
  refine Ge0 (Dl ty118)<|Z ?_
  have hz:checkG nd es=0:=Classical.not_not.1 M
  have aa:nd=0:=by first|exact ae|exact absurd ad M
  exact D5 C ty118 C C mm C (vc 3 (.slice none (eo 0#64).length 0) (eo 0#64)::vc 3 (.slice none ([]:List Int).length 0) ([]:List Int)::I) (by rw [Dh];exact Ak (show Fit κ _ I from Ah)<|Ak (Bw _ _)<|Bw _ _) ⟨none,0,0#64,none,0,[],0,1,1,by rw [Dh,hz];rfl,⟨⟨λh=>absurd hz h,λ_ _=>⟨rfl,rfl,rfl⟩,λ_ h=>absurd aa h⟩,λ_=>⟨rfl,splitP_nil (checkG_ok.1 hz) aa⟩⟩,rfl⟩
 refine Ap C (λae=>Z ?_)<|λae=>Z ?_
 ·refine Ap C (λM=>Z ?_) (λM=>?_)
  ·refine Ge0 (Dl ty118) (Z ?_)
   exact D5 C ty118 C C mm C (vc 3 (.slice none (eo 0#64).length 0) (eo 0#64)::vc 3 (.slice none ([]:List Int).length 0) ([]:List Int)::I) (by rw [Dh];exact Ak (show Fit κ _ I from Ah)<|Ak (Bw _ _)<|Bw _ _) ⟨none,0,0#64,none,0,[],0,0,0,by rw [Dh];rfl,⟨⟨λ_=>⟨rfl,rfl,rfl⟩,λh=>absurd h M,λh=>absurd h M⟩,λh=>absurd h M⟩,rfl⟩
  refine Bt<|Ay<|Ar<|Gc0 (Ac c_ C C Nothing_ok) ?_
  refine Ge0 (Dl ty118)<|Z ?_
  have hz:checkG nd es=0:=Classical.not_not.1 M
  have aa:nd=0:=by first|exact ae|exact absurd ad M
  exact D5 C ty118 C C mm C (vc 3 (.slice none (eo 0#64).length 0) (eo 0#64)::vc 3 (.slice none ([]:List Int).length 0) ([]:List Int)::I) (by rw [Dh];exact Ak (show Fit κ _ I from Ah)<|Ak (Bw _ _)<|Bw _ _) ⟨none,0,0#64,none,0,[],0,1,1,by rw [Dh,hz];rfl,⟨⟨λh=>absurd hz h,λ_ _=>⟨rfl,rfl,rfl⟩,λ_ h=>absurd aa h⟩,λ_=>⟨rfl,splitP_nil (checkG_ok.1 hz) aa⟩⟩,rfl⟩
 have hz:checkG nd es=0:=by first|exact Classical.not_not.1 ad|omega
 have hG:=checkG_ok.1 hz
 have hm:=edges_le hG
 have ao:=hG.rng
 have ap:1<=nd:=by omega
 refine G.e (Ac c_ C C<|Plain_ok (Au hl) hm hG.rng) ?_
 rintro _ _ ⟨_,_,⟨aw,cw,ab,cb,ak,ck,ws,bs,cs,rfl,an,rfl⟩,rfl,rfl⟩
 refine G.e (Ac c_ C C<|Densest_ok (Au hl) A7 A7 A7 hG hm an om<|A8 hT Ah) ?_
 rintro _ _ ⟨_,_,⟨Bn,pa,pc,parts,Nn,Dd,rfl,hS,aj,rfl⟩,rfl,rfl⟩
 refine Z ?_
 refine Ge1 (Am ty169 C) λb3=>Ge1 (Am ty34 C) λb4=>Ge0 (Cf ty169) ?_
 refine Ge0 (Cf ty34) ?_
 refine As<|A5<|A4 mixed<|Cr 10<|Z ?_
 refine Ds1 2<|Sc2 C (Ac c_ C C<|MList_ok Bn<|A8 hT Ah) λai ah=>?_
 refine Dr 9 C (Br (cells:=[_,_,_,_,_]) ty118 Fe pl118 C C)<|C3 kr ?_
 refine Ae 10 C (Dl ty118) ?_
 rintro _ _ ⟨rfl,rfl⟩
 refine Fg (i:=11) kr C (Ba C) C C (A0 C) ?_
 refine C4 kr<|Z ?_
 exact D5 C ty118 C C mm C (vc 3 (.slice ai (eo Bn).length ah) (eo Bn)::vc 3 (.slice pa parts.length pc) parts::I) Bb ⟨ai,ah,Bn,pa,pc,parts,Nn,Dd,Dd,by rw [hz]<;>rfl,⟨⟨λh=>absurd hz h,λ_ h=>absurd h om,λ_ _=>hS⟩,λ_=>⟨rfl,aj⟩⟩,rfl⟩
end Go.Sl
namespace Go.Sl
variable{sup:List Int}{gone:List Bool}{j m n:Nat}{b:Int}
def bestT(sup:List Int)(gone:List Bool):Nat->Int
 |0=> -1
 |i+1=>if e_ gone i=false/\(bestT sup gone i<0\/e_ sup i<e_ sup (bestT sup gone i)) then (i:Int) else bestT sup gone i
theorem bestT_lt(sup:List Int)(gone:List Bool)(n:Nat) : -1<=bestT sup gone n/\bestT sup gone n<n:=by
 induction n with
 |zero=>simp [bestT]
 |succ n ih=>unfold bestT;split<;>omega
theorem bestT_there(sup:List Int)(gone:List Bool)(n:Nat):bestT sup gone n<0\/e_ gone (bestT sup gone n)=false:=by
 induction n with
 |zero=>left;simp [bestT]
 |succ n ih=>
  unfold bestT;split
  ·rename_i h;exact .inr h.1
  exact ih
theorem bestT_some(h:∃i:Nat,i<n/\e_ gone i=false):0<=bestT sup gone n:=by
 induction n with
 |zero=>obtain ⟨i,hi,_⟩:=h;omega
 |succ n ih=>
  unfold bestT
  by_cases hb:bestT sup gone n<0
  ·obtain ⟨i,hi,hg⟩:=h
   have M:i=n:=by
    refine Classical.byContradiction λaa=>?_
    have:=ih ⟨i,by omega,hg⟩
    omega
   subst M
   rw [if_pos ⟨hg,.inl hb⟩];omega
  split<;>omega
def lowT(gone:List Bool)(sup:List Int)(p:Pt):List Int:=
 if e_ gone p.u=false/\e_ gone p.v=false then (sup.set p.u.toNat<|e_ sup p.u - 1).set p.v.toNat (e_ (sup.set p.u.toNat<|e_ sup p.u - 1) p.v - 1) else sup
structure TrS where
 sup:List Int
 gone:List Bool
 num:List Int
 ord:List Int
 k:Int
def startT(tri:List (List Pt)):TrS:=⟨tri.map λl=>(l.length:Int),List.replicate tri.length false,List.replicate tri.length 0,[],0⟩
def stepTr(tri:List (List Pt))(s:TrS):TrS:=
  ⟨(e_ tri (bestT s.sup s.gone tri.length)).foldl (lowT (s.gone.set (bestT s.sup s.gone tri.length).toNat true)) s.sup,s.gone.set (bestT s.sup s.gone tri.length).toNat true,
   s.num.set (bestT s.sup s.gone tri.length).toNat (max s.k (e_ s.sup (bestT s.sup s.gone tri.length))),s.ord++[bestT s.sup s.gone tri.length],max s.k (e_ s.sup (bestT s.sup s.gone tri.length))⟩
def runTr(tri:List (List Pt)):Nat->TrS
 |0=>startT tri
 |j+1=>stepTr tri (runTr tri j)
def trussN(tri:List (List Pt)):List Int:=(runTr tri tri.length).num
def trussO(tri:List (List Pt)):List Int:=(runTr tri tri.length).ord
structure TriOk (m:Nat) (tri:List (List Pt)):Prop where
 len:∀l∈tri,l.length<=m
 rng:∀l∈tri,∀p∈l,0<=p.u/\p.u<tri.length/\0<=p.v/\p.v<tri.length
structure TrOk (m n j:Nat) (s:TrS):Prop where
 slen:s.sup.length=n
 glen:s.gone.length=n
 nlen:s.num.length=n
 olen:s.ord.length=j
 cnt:s.gone.count false+j=n
 sup:∀x∈s.sup, -(2*(m:Int)*j)<=x/\x<=m
 k:0<=s.k/\s.k<=m
 num:∀x∈s.num,0<=x/\x<=m
theorem lowT_len(gone:List Bool)(sup:List Int)(p:Pt):(lowT gone sup p).length=sup.length:=by unfold lowT;split<;>simp
theorem lowT_rng{p:Pt}{a:Int}(M:0<=p.u/\p.u<sup.length/\0<=p.v/\p.v<sup.length)(h:∀x∈sup,a<=x/\x<=b):∀x∈lowT gone sup p,a - 2<=x/\x<=b:=by
 unfold lowT
 split
 ·intro x hx
  have hu:=h _ (at_mem M.1 M.2.1)
  have hv:=h _ (at_mem M.2.2.1 M.2.2.2)
  rcases List.mem_or_eq_of_mem_set hx with hx|rfl
  ·rcases List.mem_or_eq_of_mem_set hx with hx|rfl
   ·have:=h x hx;omega
   omega
  rw [at_set _ p.u p.v _ M.1 M.2.2.1 M.2.1]
  split<;>omega
 intro x hx;have:=h x hx;omega
theorem low_all{gone:List Bool}{b:Int}{n:Nat}:∀(l:List Pt) {sup:List Int} {a:Int},sup.length=n->(∀p∈l,0<=p.u/\p.u<n/\0<=p.v/\p.v<n)->(∀x∈sup,a<=x/\x<=b)->(l.foldl (lowT gone) sup).length=n/\∀x∈l.foldl (lowT gone) sup,a - 2*l.length<=x/\x<=b
 |[],sup,a,hs,_,h=>⟨hs,λx M=>by have:=h x M;simp only [List.length_nil];omega⟩
 |p::l,sup,a,hs,hp,h=>by
  have h1:=lowT_rng (gone:=gone) (p:=p) (by have:=hp p List.mem_cons_self;omega) h
  obtain ⟨h2,h3⟩:=low_all (gone:=gone) (b:=b) (n:=n) l (sup:=lowT gone sup p) (a:=a - 2) (by rw [lowT_len];exact hs) (λq hq=>hp q<|List.mem_cons_of_mem _ hq) h1
  refine ⟨h2,λx M=>?_⟩
  have:=h3 x M
  simp only [List.length_cons];omega
theorem TrOk.start{tri:List (List Pt)}(h:TriOk m tri):TrOk m tri.length 0 (startT tri):=by
 refine ⟨by simp [startT],by simp [startT],by simp [startT],rfl,by simp [startT],λx M=>?_,by simp [startT],λx M=>?_⟩
 ·obtain ⟨l,hl,rfl⟩:=List.mem_map.1 M
  have:=h.len l hl
  simp;omega
 have:=List.eq_of_mem_replicate M;omega
theorem TrOk.best{tri:List (List Pt)}{s:TrS}(hs:TrOk m tri.length j s)(hj:j<tri.length):0<=bestT s.sup s.gone tri.length/\bestT s.sup s.gone tri.length<tri.length/\e_ s.gone (bestT s.sup s.gone tri.length)=false:=by
 have hc:=hs.cnt
 have h0:0<=bestT s.sup s.gone tri.length:=by
  refine bestT_some ?_
  have M:false∈s.gone:=List.count_pos_iff.1 (by omega)
  obtain ⟨i,hi,e⟩:=List.mem_iff_getElem.1 M
  exact ⟨i,by have:=hs.glen;omega,by rw [at_get _ _ hi,e]⟩
 exact ⟨h0,(bestT_lt _ _ _).2,(bestT_there _ _ _).resolve_left (by omega)⟩
theorem TrOk.step{tri:List (List Pt)}{s:TrS}(h:TriOk m tri)(hs:TrOk m tri.length j s)(hj:j<tri.length):TrOk m tri.length (j+1) (stepTr tri s):=by
 obtain ⟨h0,h1,h2⟩:=hs.best hj
 unfold stepTr
 generalize bestT s.sup s.gone tri.length=b at h0 h1 h2
 have M:=at_mem (xs:=tri) h0 h1
 have ad:=hs.sup _ (at_mem (xs:=s.sup) (i:=b) h0<|by have:=hs.slen;omega)
 obtain ⟨l1,l2⟩:=low_all (gone:=s.gone.set b.toNat true) (b:=(m:Int)) (n:=tri.length) (e_ tri b) hs.slen (λp hp=>h.rng _ M p hp) hs.sup
 have hl:=h.len _ M
 have hk:=hs.k
 have hg:b.toNat<s.gone.length:=by have:=hs.glen;omega
 have aa:s.gone[b.toNat]=false:=by rw [←at_get _ _ hg,show ((b.toNat:Nat):Int)=b by omega];exact h2
 have ab:=hs.cnt
 refine ⟨l1,by rw [List.length_set];exact hs.glen,by rw [List.length_set];exact hs.nlen,by simp [hs.olen],?_,λx hx=>?_,?_,λx hx=>?_⟩
 ·show (s.gone.set b.toNat true).count false+(j+1)=_
  rw [List.count_set hg,aa]
  have:0<s.gone.count false:=List.count_pos_iff.2 (aa▸List.getElem_mem hg)
  simp;omega
 ·have:=l2 x hx
  have e:2*(m:Int)*((j+1:Nat):Int)=2*m*j+2*m:=by rw [Int.natCast_add,Int.mul_add];omega
  omega
 ·show 0<=max s.k _/\max s.k _<=(m:Int);omega
 rcases List.mem_or_eq_of_mem_set hx with hx|rfl
 ·exact hs.num x hx
 omega
theorem runTr_ok{tri:List (List Pt)}(h:TriOk m tri):∀j,j<=tri.length->TrOk m tri.length j (runTr tri j)
 |0,_=>TrOk.start h
 |j+1,hj=>(runTr_ok h j<|by omega).step h (by omega)
theorem trussN_bound{tri:List (List Pt)}(h:TriOk m tri):(trussN tri).length=tri.length/\∀x∈trussN tri,0<=x/\x<=m:=⟨(runTr_ok h _ (Nat.le_refl _)).nlen,(runTr_ok h _ (Nat.le_refl _)).num⟩
end Go.Sl
namespace Go.Sl
open Go.RowKit (Below)
variable{T et r:Nat}{w:World}{x y:Operand}
section
variable {α:Type}[Enc α][DecidableEq α]
def entF:Nat->List α->List MapEntry
 |_,[]=>[]
 |i,x::xs=>{key:= .agg (Enc.enc x).toArray,val:=e7 (i:Nat),born:=i}::entF (i+1) xs
theorem entF_snoc:∀(xs:List α) (i:Nat) (x:α),entF i (xs++[x])=entF i xs++[{key:= .agg (Enc.enc x).toArray,val:=e7 ((i+xs.length:Nat):Int),born:=i+xs.length}]
 |[],i,x=>by simp [entF]
 |y::ys,i,x=>by
  have h:=entF_snoc ys (i+1) x
  rw [show i+1+ys.length=i+(ys.length+1) by omega] at h
  show _::entF (i+1) (ys++[x])=_
  rw [h];rfl
def KeyT(P:Program)(T:TypeId)(α:Type)[Enc α]:Prop:=∀(x:α) (e:Bool) (w:World),(Instr.checkKey e 10000 T (.agg (Enc.enc x).toArray)).run P w = .ok () w
theorem run_asking{P:Program}{T:TypeId}{w:World}(h:EqT P T α)(k:α):∀(xs:List α) (i j:Nat),(Instr.findAsking T (.agg (Enc.enc k).toArray) (entF i xs) j).run P w = .ok (if k∈xs then some (j+xs.idxOf k,e7 ((i+xs.idxOf k:Nat):Int)) else none) w
 |[],i,j=>by simp [entF,Instr.findAsking]
 |x::xs,i,j=>by
  have M:=run_asking (w:=w) h k xs (i+1) (j+1)
  have he:(Op.equal T (.agg (Enc.enc k).toArray)<|.agg (Enc.enc x).toArray).run P w = .ok (decide<|k=x) w:=h.1 k x w
  unfold entF Instr.findAsking
  simp only [Sem.run_bind,he,Result.andThen]
  by_cases hx:k=x
  ·subst hx
   simp
  rw [decide_eq_false hx]
  simp only [Bool.false_eq_true,if_false]
  rw [M]
  have hb:(x==k)=false:=by simpa using λe=>hx e.symm
  by_cases hm:k∈xs
  ·rw [if_pos hm,if_pos<|List.mem_cons_of_mem _ hm,List.idxOf_cons,hb]
   simp only [cond_false]
   rw [show j+1+List.idxOf k xs=j+(List.idxOf k xs+1) by omega,show i+1+List.idxOf k xs=i+(List.idxOf k xs+1) by omega]
  rw [if_neg hm,if_neg<|by simp [hx,hm]]
theorem run_findStruct{P:Program}{T:TypeId}{M:Array Field}(hT:P.underlying T=some (.struct M))(h:EqT P T α)(k:α)(xs:List α):(Instr.findKey T (.agg (Enc.enc k).toArray) (entF 0 xs)).run P w = .ok (if k∈xs then some (xs.idxOf k,e7 ((xs.idxOf k:Nat):Int)) else none) w:=by
 unfold Instr.findKey
 simp only [Sem.run_bind,run_underlying hT,Result.andThen]
 cases xs with
 |nil=>simp [entF,Instr.findNow]
 |cons x xs=>
  have e:Instr.findNow (.struct M) (.agg (Enc.enc k).toArray) (entF 0<|x::xs) 0=none:=by
   simp [entF,Instr.findNow,Instr.sameNow]
  rw [e]
  have:=run_asking (w:=w) h k (x::xs) 0 0
  simp only [Nat.zero_add] at this
  exact this
def mpE(r:Nat)(xs:List α):Item:=mp r (entF 0 xs) xs.length
section
variable {P:Program}{κ:Ctx}{N:Frm}{Q:Exit->Act->World->Prop}{L:Env}{I J:List Item}{ops:Array Oper}{rest:List Oper}
variable {d:Option Tmp}{ty:TypeId}{ps:String}{af:Array Edge}{gd:Option (Nat×Bool)}
theorem Eff.makeMapE{dd:Nat}(M:Nat.blt dd N.n=true) :
  Eff P κ N Q ⟨some dd,.makeMap T none,ty,ps,af,gd⟩ L I λL' I'=>∃r,L'=(dd,.map<|some r)::L/\I'=mpE (α:=α) r []::I:=Eff.makeMap M
theorem Eff.updateE{z:Operand}{kt:Nat}{fs:Array Field}{xs:List α}{k:α}{v:Value}{I':List Item}(ht:P.underlying T=some (.map kt et))(ae:P.underlying kt=some (.struct fs))(he:EqT P kt α)(hc:KeyT P kt α)(hx:er L x=some (.map (some r)))
  (hy:er L y=some (.agg (Enc.enc k).toArray)) (hz:er L z=some v) (hv:v=e7 ((xs.length:Nat):Int)) (hk:k∉xs) (aa:At I (mpE r xs) (mpE r<|xs++[k]) I') :
  Eff P κ N Q ⟨none,.mapUpdate T x y z,ty,ps,af,gd⟩ L I λL' I''=>L'=L/\I''=I':=
 Eff.of_skip rfl λa w ha hs=>by
  have hb:=(hs.ok _ aa.mem).1
  have hf:=run_findStruct (w:=w) ae he k xs
  rw [if_neg hk] at hf
  have M:=entF_snoc xs 0 k
  simp only [Nat.zero_add] at M
  refine ⟨{w with heap:=w.heap.setIfInBounds r (.map (entF 0<|xs++[k]).toArray (xs++[k]).length)},I',?_,⟨rfl,rfl⟩,?_⟩
  ·subst hv
   have ab:(entF 0 xs).toArray.push {key:= .agg (Enc.enc k).toArray,val:=e7 ((xs.length:Nat):Int),born:=xs.length}=(entF 0<|xs++[k]).toArray:=by
    rw [M];simp
   have hl:xs.length+1=(xs++[k]).length:=by simp
   simp [execOp,ha.eval hx,ha.eval hy,ha.eval hz,Instr.mapUpdate,run_underlying ht,MapKept.run_getObj_map hb,hc k,hf,MapKept.run_setObj_map _ hb,Result.andThen,M]
  exact hs.upd aa rfl ⟨rfl,Nat.le_refl _⟩ rfl (by simp) (λk _ ad=>(MapKept.heap_set hb).2 k λe=>ad e) (MapKept.heap_set hb).1 λk hk=> .inl hk
theorem Runs.lookupE{M:Nat}{fs:Array Field}{xs:List α}{k:α}(ht:P.underlying T=some (.map M et))(aa:P.underlying M=some (.struct fs))(he:EqT P M α)(hc:KeyT P M α)(hx:er L x=some (.map (some r)))
  (hy:er L y=some (.agg (Enc.enc k).toArray)) (hm:mpE r xs∈J) (hk:k∈xs):Runs P κ N ⟨d,.lookup T x y false,ty,ps,af,gd⟩ L J (e7 ((xs.idxOf k:Nat):Int)):=
 λa w ha hs=>by
  have hb:=(hs.ok _ hm).1
  have hf:=run_findStruct (w:=w) aa he k xs
  rw [if_pos hk] at hf
  simp [execOp,ha.eval hx,ha.eval hy,Instr.lookup,run_underlying ht,MapKept.run_getObj_map hb,hc k,hf,Result.andThen]
end
end
end Go.Sl
namespace Go.Sl
open Go.Proofs
set_option maxRecDepth 4000
variable{nd:Int}{es:List Pt}
variable {κ:Ctx}{I:List Item}
attribute [local irreducible] W G V D A Runs Eff
def triE(nd:Int)(es:List Pt)(e:Pt):List Pt:=(commonG nd es e.u e.v).map λw=>(⟨((es.idxOf (edgeP e.u w):Nat):Int),((es.idxOf (edgeP e.v w):Nat):Int)⟩:Pt)
def trisE(nd:Int)(es:List Pt):List (List Pt):=es.map (triE nd es)
theorem ck95:KeyT prog 95 Pt:=λx e w=>by
 cases x;kernel_rfl
theorem common_mem(hG:GrOk nd es){e:Pt}(he:e∈es){w:Int}(hw:w∈commonG nd es e.u e.v):edgeP e.u w∈es/\edgeP e.v w∈es:=by
 have M:=hG.edge e he
 have hr:=hG.rows
 have ad:e.u≠e.v:=by omega
 have hc:¬checkG nd es≠0:=λh=>h (checkG_ok.2 hG)
 have aa:∀u:Int,0<=u->u<nd->rowG nd es u=e_ (ek nd es) u:=λu h0 h1=>by
  have ae:=hG.rows.len
  unfold rowG
  rw [if_neg (by rintro (h|h|h);(· omega);(· omega);(· exact hc h))]
 rw [←common_eq ad,mem_andB,aa _ M.1 om,aa _ om M.2.2,hr.mem M.1 om,hr.mem om M.2.2] at hw
 have ab:∀a b:Int,((⟨a,b⟩:Pt)∈es\/(⟨b,a⟩:Pt)∈es)->edgeP a b∈es:=λa b h=>by
  unfold edgeP
  rcases h with h|h
  ·have:=hG.edge _ h
   simp only at this
   rw [if_neg om,if_pos om];exact h
  have:=hG.edge _ h
  simp only at this
  rw [if_pos om,if_neg om];exact h
 exact ⟨ab _ _ hw.1.2,ab _ _ hw.2.2⟩
theorem common_len(hG:GrOk nd es){e:Pt}(he:e∈es):(commonG nd es e.u e.v).length<=nd.toNat - 1:=by
 have aa:=hG.edge e he
 have ab:e.u≠e.v:=by omega
 have hc:¬checkG nd es≠0:=λh=>h (checkG_ok.2 hG)
 have M:∀u:Int,0<=u->u<nd->rowG nd es u=e_ (ek nd es) u:=λu h0 h1=>by
  have ad:=hG.rows.len
  unfold rowG
  rw [if_neg (by rintro (h|h|h);(· omega);(· omega);(· exact hc h))]
 rw [←common_eq ab,M _ aa.1 om,M _ om aa.2.2]
 have hS:=rows_sym hG
 have hl:=hG.rows.len
 have:=degB_lt hS (e_ (ek nd es) e.v) aa.1 om
 unfold degB at this
 omega
theorem tris_ok(hG:GrOk nd es):TriOk (nd.toNat - 1) (trisE nd es):=by
 refine ⟨λl M=>?_,λl M p hp=>?_⟩
 ·obtain ⟨e,he,rfl⟩:=List.mem_map.1 M
  unfold triE;rw [List.length_map];exact common_len hG he
 obtain ⟨e,he,rfl⟩:=List.mem_map.1 M
 obtain ⟨w,hw,rfl⟩:=List.mem_map.1 hp
 obtain ⟨h1,h2⟩:=common_mem hG he hw
 have a:=List.idxOf_lt_length_of_mem h1
 have b:=List.idxOf_lt_length_of_mem h2
 have M:(trisE nd es).length=es.length:=List.length_map ..
 simp only
 omega
def rgI(rs:List (RowG Pt)):List Item:=rs.map λr=>vc 207 (.slice r.a r.xs.length r.c) r.xs
theorem At.rg{I:List Item}{ad:Option Addr}{c:Nat}{xs:List Pt}:∀{rs:List (RowG Pt)} {i:Int},0<=i->i<rs.length->
  At (rgI rs++I) (vc 207 (.slice (e_ rs i).a (e_ rs i).xs.length (e_ rs i).c) (e_ rs i).xs) (vc 207 (.slice ad xs.length c) xs) (rgI (List.set rs i.toNat ⟨ad,c,xs⟩)++I):=fun {rs} {i} M h=>by
 obtain ⟨k,rfl⟩:∃k:Nat,i=(k:Int):=⟨i.toNat,by omega⟩
 rw [Int.toNat_natCast]
 clear M
 induction rs generalizing k with
 |nil=>simp at h;omega
 |cons r rs ih=>
  cases k with
  |zero=>exact At.head _ _ _
  |succ k=>exact At.tail _ (ih k<|by simp at h;omega)
theorem rgI_mem{I:List Item}{rs:List (RowG Pt)}{i:Int}(M:0<=i)(h:i<rs.length):vc 207 (.slice (e_ rs i).a (e_ rs i).xs.length (e_ rs i).c) (e_ rs i).xs∈rgI rs++I:=(At.rg (ad:=none) (c:=0) (xs:=[]) M h).mem
theorem Fit.nilrg:∀(rs:List (RowG Pt)),(∀r∈rs,r=default)->Fit κ I (rgI rs++I)
 |[],_=>Fv _
 |r::rs,h=>by
  refine Ak (Fit.nilrg rs λx M=>h x<|List.mem_cons_of_mem _ M) ?_
  show Fit κ _ (vc 207 (.slice r.a r.xs.length r.c) r.xs::_)
  rw [h r List.mem_cons_self]
  exact Bw _ _
theorem rows_tri{rs:List (RowG Pt)}(hl:rs.length=es.length)(h:∀i:Nat,i<es.length->(e_ rs i).xs=triE nd es (e_ es i)):rs.map RowG.xs=trisE nd es:=by
 show rs.map RowG.xs=es.map (triE nd es)
 refine List.ext_getElem (by rw [List.length_map,List.length_map];exact hl) λi M h2=>?_
 rw [List.length_map] at M
 have:=h i om
 rw [Cx _ _ M,Cx _ _ om] at this
 rw [List.getElem_map,List.getElem_map];exact this
theorem not_take(h:es.Nodup){k:Nat}(M:k<es.length):e_ es k∉es.take k:=by
 rw [Cx es k M]
 intro hm
 obtain ⟨i,hi,e⟩:=List.mem_iff_getElem.1 hm
 rw [List.length_take] at hi
 rw [List.getElem_take] at e
 exact (List.pairwise_iff_getElem.1 h) i k om M om e
theorem Triangles_ok{va:Value}(hl:Sl κ I va es)(hG:GrOk nd es)(hb:es.length<=1000000)(hT:TabRd κ I 0 tzCells):eu prog κ 231 [.agg #[e7 nd,va]] I (λr J=>∃a c rs,r = .slice a (rs.length) c/\rs.map RowG.xs=trisE nd es/\J=vc 205 (.slice a rs.length c) rs::(rgI rs++I)):=by
 refine Bu hl.le λa1=>?_
 have a4:=hG.rng
 refine Ce1 Tryz.func231 C C ?_
 refine Ar<|Ge1 (Al (cs:=[_,_]) C C C) λb1=>Ga C<|As<|Ar<|Ge1 (Eff.makeMapE (α:=Pt) C) λad=>Z ?_
 refine D7 (σ:=Nat) (λs=>[(17,e7 ((s:Nat):Int))]) (λs=>[mpE (α:=Pt) ad (es.take s)]) (λs=>(s<=es.length)) (λs=>es.length - s) 0 (show ((0:Nat)<=es.length) from om) ?_
 rintro k hp
 have hk:=hp
 refine Z ?_
 refine Ap C (λaw=>Z ?_)<|λaw=>Z ?_
 ·refine Ge1 (Am ty95 C) λb3=>Ga C (Ge0 (Cf ty95)<|Z ?_)
  refine Ge0 (Eff.updateE (α:=Pt) (k:=(e_ es k)) Tryz.underlying295 Fi eqt95 ck95 C C C (by rw [List.length_take,Nat.min_eq_left om]) (not_take (asc_nodup hG.asc) om) am)<|Z ?_
  exact B5 ((k+1)) om (hI:=by (try dsimp only);exact (by rw [Ct es k om];exact Aj))
 have ax:es.take k=es:=List.take_of_length_le om
 rw [ax]
 refine Z ?_
 refine Ge2 (Cj (α:=(RowG Pt)) (n:=es.length) Fc ty205 C C C om om dc C) λaa ab=>Z ?_
 refine Cn (σ:=Nat×(List<|RowG Pt)) (λs=>([(1,.pointer<|some ⟨b1,0,none⟩),(3,.map<|some ad),(6,.slice aa (List.replicate es.length (default:(RowG Pt))).length ab),(31,va),(32,e7 ((es.length:Nat):Int)),(33,e7 ((s.1:Nat):Int))]:Env)) (λs=>vc 205 (.slice aa (List.replicate es.length (default:(RowG Pt))).length ab) (s.2)::mpE (α:=Pt) ad (es)::e8 b1 [e7 nd,va] 56::(rgI s.2++I)) (λs=>(s.1<=es.length)/\(s.2.length=es.length)/\(∀i:Nat,i<s.1->(e_ s.2 i).xs=triE nd es (e_ es i))/\(∀i:Nat,s.1<=i->i<es.length->(e_ s.2 i).xs=[])) (λs=>es.length - s.1) (0,List.replicate es.length (default:RowG Pt)) ⟨om,List.length_replicate,(λi h=>by omega),(λi h1 h2=>by rw [Fy _ _ _ om om];rfl)⟩ (Ab C<|Ab C<|Ab C<|Ab C<|Ab C<|Ab Dg Bs) (Ak (Fit.nilrg (List.replicate es.length (default:RowG Pt))<|λr hr=>List.eq_of_mem_replicate hr) Bb) ?_
 rintro ⟨k2,rs⟩ hp
 dsimp only at hp ⊢
 obtain ⟨a5,ae,ap,ao⟩:=hp
 refine Z ?_
 refine Ap C (λay=>Z ?_)<|λay=>Z ?_
 ·refine Ge1 (Am ty95 C) λb6=>Ga C (Ge0 (Cf ty95)<|Z ?_)
  refine Gc2 (Ac c_ C C<|CommonG_ok (nd:=nd) (Au hl) ((e_ es k2).u) ((e_ es k2).v)<|A8 hT Ah) λaq an=>Z ?_
  refine Cn (σ:=Nat×(List<|RowG Pt)) (λs=>([(1,.pointer<|some ⟨b1,0,none⟩),(3,.map<|some ad),(6,.slice aa (List.replicate es.length (default:(RowG Pt))).length ab),(7,e7 ((k2:Nat):Int)),(8,.pointer<|some ⟨b6,0,none⟩),(31,va),(32,e7 ((es.length:Nat):Int)),(33,e7 ((k2:Nat):Int)),(43,.slice aq (commonG nd es ((e_ es ((k2:Nat):Int)).u)<|(e_ es ((k2:Nat):Int)).v).length an),(44,e7<|(((commonG nd es ((e_ es ((k2:Nat):Int)).u)<|(e_ es ((k2:Nat):Int)).v).length:Nat):Int)),(45,e7 ((s.1:Nat):Int))]:Env)) (λs=>vc 3 (.slice aq (commonG nd es ((e_ es ((k2:Nat):Int)).u)<|(e_ es ((k2:Nat):Int)).v).length an) (commonG nd es ((e_ es ((k2:Nat):Int)).u)<|(e_ es ((k2:Nat):Int)).v)::e8 b6 [e7 ((e_ es ((k2:Nat):Int)).u),e7<|(e_ es ((k2:Nat):Int)).v] 95::vc 205 (.slice aa (List.replicate es.length (default:(RowG Pt))).length ab) (s.2)::mpE (α:=Pt) ad (es)::e8 b1 [e7 nd,va] 56::(rgI s.2++I)) (λs=>(s.1<=(commonG nd es (e_ es ((k2:Nat):Int)).u (e_ es ((k2:Nat):Int)).v).length)/\(s.2.length=es.length)/\(∀i:Nat,i<k2->(e_ s.2 i).xs=triE nd es (e_ es i))/\(∀i:Nat,k2<i->i<es.length->(e_ s.2 i).xs=[])/\((e_ s.2 ((k2:Nat):Int)).xs=((commonG nd es (e_ es ((k2:Nat):Int)).u (e_ es ((k2:Nat):Int)).v).take s.1).map (λw=>(⟨((es.idxOf (edgeP (e_ es ((k2:Nat):Int)).u w):Nat):Int),((es.idxOf (edgeP (e_ es ((k2:Nat):Int)).v w):Nat):Int)⟩:Pt)))) (λs=>(commonG nd es (e_ es ((k2:Nat):Int)).u (e_ es ((k2:Nat):Int)).v).length - s.1) (0,rs) ⟨om,ae,ap,(λi h1 h2=>ao i om h2),(by rw [ao k2 (Nat.le_refl _) om];simp)⟩ (Ab C<|Ab C<|Ab C<|Ab C<|Ab C<|Ab C<|Ab C<|Ab C<|Ab C<|Ab C<|Ab Dg Bs) Aj ?_
  rintro ⟨j,M⟩ hp
  dsimp only at hp ⊢
  obtain ⟨hj,aj,ar,au,ak⟩:=hp
  have a6:=common_len hG (e:=(e_ es k2)) (Bx om om)
  have av:j<(commonG nd es (e_ es k2).u (e_ es k2).v).length->edgeP (e_ es k2).u (e_ (commonG nd es (e_ es k2).u (e_ es k2).v) (j:Int))∈es/\edgeP (e_ es k2).v (e_ (commonG nd es (e_ es k2).u (e_ es k2).v) (j:Int))∈es:=λh=>common_mem hG (Bx om om) (Bx om om)
  have a3:((e_ M k2).xs).length=j:=by rw [ak,List.length_map,List.length_take];omega
  refine Z ?_
  refine Ap C (λaz=>Z ?_)<|λaz=>Z ?_
  ·have hw:=av om
   refine Z ?_
   refine Gr (Runs.lookupE (α:=Pt) (k:=(edgeP (e_ es k2).u (e_ (commonG nd es ((e_ es k2).u)<|(e_ es k2).v) (j:Int)))) (xs:=es) Tryz.underlying295 Fi eqt95 ck95 C C mm hw.1)<|Z ?_
   refine Gr (Runs.lookupE (α:=Pt) (k:=(edgeP (e_ es k2).v (e_ (commonG nd es ((e_ es k2).u)<|(e_ es k2).v) (j:Int)))) (xs:=es) Tryz.underlying295 Fi eqt95 ck95 C C mm hw.2)<|Z ?_
   refine Gr (Runs.buildArr (cells:=[_,_]) ty207 Bz ef C C)<|Ge1 (B9 (α:=Pt) (cs:=[_,_]) (xs:=[⟨((List.idxOf (edgeP (e_ es k2).u (e_ (commonG nd es ((e_ es k2).u)<|(e_ es k2).v) (j:Int))) es:Nat):Int),((List.idxOf (edgeP (e_ es k2).v (e_ (commonG nd es ((e_ es k2).u)<|(e_ es k2).v) (j:Int))) es:Nat):Int)⟩]) C6 ty207 C C dc dc C C C C) λa7=>?_
   refine Ge2 (B4 (α:=Pt) (e:=207) (xs:=(e_ M k2).xs) (ys:=([⟨((List.idxOf (edgeP (e_ es k2).u (e_ (commonG nd es ((e_ es k2).u)<|(e_ es k2).v) (j:Int))) es:Nat):Int),((List.idxOf (edgeP (e_ es k2).v (e_ (commonG nd es ((e_ es k2).u)<|(e_ es k2).v) (j:Int))) es:Nat):Int)⟩]:List Pt)) C6 ty207 C C C (by repeat (first|exact rgI_mem (rs:=M) (i:=(k2:Int)) om om|apply List.mem_cons_of_mem)) A7 lcn dc C<|λ_ _=>(by repeat (first|exact At.rg (rs:=M) (i:=(k2:Int)) om om|apply At.tail))) λah ai=>Z ?_
   refine Ge0 (Ci (α:=(RowG Pt)) (xs:=M) (e:=205) (new:=(⟨ah,ai,((e_ M k2).xs++([⟨((List.idxOf (edgeP (e_ es k2).u (e_ (commonG nd es ((e_ es k2).u)<|(e_ es k2).v) (j:Int))) es:Nat):Int),((List.idxOf (edgeP (e_ es k2).v (e_ (commonG nd es ((e_ es k2).u)<|(e_ es k2).v) (j:Int))) es:Nat):Int)⟩]:List Pt))⟩:RowG Pt)) ty205 C C C om om am)<|Z ?_
   exact B5 ((j+1),(List.set M ((k2:Int)).toNat (⟨ah,ai,((e_ M k2).xs++([⟨((List.idxOf (edgeP (e_ es k2).u (e_ (commonG nd es ((e_ es k2).u)<|(e_ es k2).v) (j:Int))) es:Nat):Int),((List.idxOf (edgeP (e_ es k2).v (e_ (commonG nd es ((e_ es k2).u)<|(e_ es k2).v) (j:Int))) es:Nat):Int)⟩]:List Pt))⟩:RowG Pt)))<|by dsimp only;exact ⟨om,(by rw [List.length_set];exact aj),(λi h=>by rw [C2 _ _ _ _ om om om,if_neg om];exact ar i h),(λi h1 h2=>by rw [C2 _ _ _ _ om om om,if_neg om];exact au i h1 h2),(by rw [C2 _ _ _ _ om om om,if_pos rfl,Ct _ j om,List.map_append];show (e_ M k2).xs++_=_;rw [ak];rfl)⟩
  exact B5 ((k2+1),(M))<|by dsimp only;exact ⟨om,aj,(λi h=>by by_cases e:i=k2;(· subst e;rw [ak,List.take_of_length_le om];rfl);(· exact ar i om)),(λi h1 h2=>au i om h2)⟩
 have a8:k2=es.length:=by omega
 have a0:=rows_tri ae (λi h=>ap i om)
 exact Ai C C (vc 205 (.slice aa rs.length ab) rs::(rgI rs++I)) (by rw [ae];simp only [List.length_replicate];exact Bb) ⟨aa,ab,rs,by rw [ae];simp only [List.length_replicate],a0,rfl⟩
end Go.Sl
