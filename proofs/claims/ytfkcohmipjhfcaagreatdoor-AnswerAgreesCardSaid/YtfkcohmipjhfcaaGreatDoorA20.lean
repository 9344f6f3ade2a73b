/- A part of the proofs of statements of this seat: contracts of functions, and the plain laws that they lean on. No conditions. -/
import Derived.Test.YtfkcohmipjhfcaaGreatDoorA19
set_option linter.unusedVariables false
set_option linter.unusedSimpArgs false
set_option linter.unusedSectionVars false
namespace Go.Sl
open Go.Proofs
set_option maxRecDepth 4000
variable {κ:Ctx}{I:List Item}
theorem find_pos{nd u v y:Int}{es:List Pt}(hG:GrOk nd es)(h:FindP nd es u v y):0≤y↔edgeP u v∈es:=by
 rcases h with ⟨_,j,rfl,hj,e⟩|⟨rfl,h|h⟩
 ·exact ⟨fun _=>e▸Ck om om,fun _=>by omega⟩
 ·exact absurd (checkG_ok.2 hG) h
 ·exact ⟨fun h=>by omega,fun h2=>absurd h2 h⟩
theorem clq_valid{nd:Int}{es:List Pt}{X:List Int}(h:ClqE nd es X):ValidP X nd:=ValidP_iff.2 ⟨h.2,h.1.imp fun h=>h.1⟩
theorem clq_at{nd:Int}{es:List Pt}{X:List Int}(h:ClqE nd es X){i j:Nat}(hij:i<j)(hj:j<X.length):edgeP (at_ X (i:Int)) (at_ X (j:Int))∈es:=by
 rw [D3 _ i om,D3 _ j hj]
 exact ((List.pairwise_iff_getElem.1 h.1) i j om hj hij).2
theorem Fits24_ok{nd:Int}{va:Value}{es:List Pt}{sa:Option Addr}{sc:Nat}{X:List Int}(hl:Sl κ I va es)(hs:Sl κ I (.slice sa X.length sc) X)(hG:GrOk nd es){v:Int} :
    CallS Tryz.prog κ 248 [.agg #[I64 (nd),va],.slice sa X.length sc,I64 (v)] I (fun r J=>∃b:Bool,r = .bool b∧(b=true↔fitP es X v)∧I=J):=by
 refine B4 hs.le fun hmax=>?_
 refine Ce3 Tryz.func248 rfl rfl ?_
 refine Ah (Ge1 (Bb (cs:=[_,_]) rfl rfl rfl) fun b1=>Ga rfl (Af (Ao (Ah (Ga rfl (Af (Ax (Bx (σ:=Nat) (fun s=>([(1,.slice sa X.length sc),(2,I64 (v)),(3,.pointer (some ⟨b1,0,none⟩)),(7,I64 (((s:Nat):Int)))]:Env)) (fun s=>blk b1 [I64 (nd),va] 48::I) (fun s=>(s≤X.length)∧(∀i:Nat,i<s→at_ X (i:Int)≠v∧edgeP (at_ X (i:Int)) v∈es)) (fun s=>X.length - s) (0) (show ((0:Nat)≤X.length)∧(∀i:Nat,i<(0:Nat)→at_ X (i:Int)≠v∧edgeP (at_ X (i:Int)) v∈es) from ⟨om,(fun i h=>by omega)⟩) (Ac rfl (Ac rfl (Ac rfl (Ac Cb Bq)))) (show Fit κ _ (blk b1 [I64 (nd),va] 48::I) from Ay) ?_))))))))
 rintro k hp
 obtain ⟨hk,hf⟩:=hp
 refine Ao (Ah (Gm rfl (Gm rfl (Gr (Bw Ab rfl) (Gr (Bc rfl rfl) (Af (A9 rfl (fun c11=>?_) (fun c11=>?_))))))))
 ·refine A0 (Ai (Ao (Ax (Ao (Bo mixed (Bu (blk b1 [I64 (nd),va] 48::I) 16 (Dr 0 rfl (Ad rfl) (Dr 1 rfl (Ad rfl) (Dr 2 rfl (A8 (α:=Int) (xs:=X) Ab ty3 rfl rfl (Bf hs) om om) (Dr 3 rfl (B2 (xs:=X) ty3 rfl (Bf hs) om om) (Dr 4 rfl (Ad rfl) (Dr 5 rfl (Bs rfl rfl) (Dr 6 rfl (Ad rfl) (D1 (d:=20) rfl (fun g20=>?_) (fun g20=>?_)))))))))))))))
  ·exact Dpo 7 rfl (Dpo 8 rfl (Dpo 9 rfl (Dpo 10 rfl (Dpo 11 rfl (Dpo 12 rfl (Dpo 13 rfl (Dpo 14 rfl (Dr 15 rfl (Ap rfl rfl) (Dz (Ai (As (S5 29 1 2 3 7 rfl rfl rfl rfl rfl) (Cl rfl (Ah (Ga rfl (Af (A2 (Ar (Al (Al (Ar (Al (A7 rfl rfl (I) A4 ⟨false,rfl,⟨fun h=>(by cases h),fun h=>(by exfalso;have h1:=h _ (Ck (xs:=X) (i:=(k:Int)) om om);first|exact h1.1 asm|(have h2:=(find_pos hG hfy).2 h1.2;omega))⟩,rfl⟩))))))))))))))))))))))
  ·refine Dro 7 rfl (Bm (vs:=[_,_]) ty48) ?_
   refine Dro 8 rfl (Ad rfl) (Dro 9 rfl (Ad rfl) (Dro 10 rfl (A8 (α:=Int) (xs:=X) Ab ty3 rfl rfl (Bf hs) om om) (Dro 11 rfl (B2 (xs:=X) ty3 rfl (Bf hs) om om) (Dro 12 rfl (Ad rfl) (Ds1 13 (Se rfl (Am call64 rfl rfl (FindP03_ok (nd:=nd) (Bf hl) (at_ X (k:Int)) v)) ?_))))))
   rintro _ _ ⟨_,_,⟨y2,rfl,hy2,rfl⟩,rfl,rfl⟩
   refine ⟨Ay,?_⟩
   refine Dro 14 rfl (Bc rfl rfl) (Dr 15 rfl (Av rfl rfl) (Dz (Ai (As (S5 29 1 2 3 7 rfl rfl rfl rfl rfl) (A9 rfl (fun c29=>?_) (fun c29=>?_))))))
   ·exact Ah (Ga rfl (Af (A2 (Ar (Al (Al (Ar (Al (A7 rfl rfl (I) A4 ⟨false,rfl,⟨fun h=>(by cases h),fun h=>(by exfalso;have h1:=h _ (Ck (xs:=X) (i:=(k:Int)) om om);first|exact h1.1 asm|(have h2:=(find_pos hG hy2).2 h1.2;omega))⟩,rfl⟩)))))))))
   ·exact A0 (Aj (Ai (Aw (Gm rfl (Gr (Rad rfl rfl) (Ga rfl (Bj (B6 ((k+1)) ⟨om,(fun i hi=>by by_cases e:i=k;(· subst e;exact ⟨by assumption,(find_pos hG hy2).1 om⟩);(· exact hf i om))⟩))))))))
 ·exact Bt (Ak (Ak (A6 (Ai (Ah (Ga rfl (Af (A2 (A7 rfl rfl (I) A4 ⟨true,rfl,⟨fun _ x hx=>by obtain ⟨i,hi,rfl⟩:=mem_at hx;exact hf i om,fun _=>rfl⟩,rfl⟩)))))))))
theorem Is24_ok{nd:Int}{va:Value}{es:List Pt}{sa:Option Addr}{sc:Nat}{X:List Int}(hl:Sl κ I va es)(hs:Sl κ I (.slice sa X.length sc) X)(hG:GrOk nd es)(hX:ClqE nd es X) :
    CallS Tryz.prog κ 290 [.agg #[I64 (nd),va],.slice sa X.length sc] I (fun r J=>r = .bool true∧I=J):=by
 refine B4 hs.le fun hmax=>?_
 refine Ce2 Tryz.func290 rfl rfl ?_
 refine Ah (Ge1 (Bb (cs:=[_,_]) rfl rfl rfl) fun b1=>Ga rfl (Af (Ao (Ah (Gl2 ty48 ?_)))))
 refine G.e (Am call30 rfl rfl (Check03G_ok (nd:=nd) (Bf hl))) ?_
 rintro _ _ ⟨_,_,⟨rfl,rfl⟩,rfl,rfl⟩
 refine Gr (Bv rfl rfl) (Gm rfl (Bi (d:=10) rfl (fun g10=>?_) (fun g10=>?_)))
 ·exact absurd (checkG_ok.2 hG) g10
 ·refine Gro (Ad rfl) (Gro (Aa fld48_0 rfl) (Gro (Au ty3) ?_))
  refine Eu (Cv rfl rfl rfl) (Am call91 rfl rfl (RValid_ok (Bf hs) nd)) ?_
  rintro _ _ ⟨_,_,⟨rfl,rfl⟩,rfl,rfl⟩
  refine Gro (C7 rfl) (Gr (Av rfl rfl) (Af (As (S3 16 2 1 rfl rfl rfl) (A9 rfl (fun c16=>?_) (fun c16=>?_)))))
  ·exact absurd (clq_valid hX) c16
  ·refine A0 (Ai (Ao (Ah (Ga rfl (Af (Ax (Bx (σ:=Nat) (fun s=>([(1,.slice sa X.length sc),(2,.pointer (some ⟨b1,0,none⟩)),(5,I64 (((s:Nat):Int)))]:Env)) (fun s=>blk b1 [I64 (nd),va] 48::I) (fun s=>(s≤X.length)) (fun s=>X.length - s) (0) (show ((0:Nat)≤X.length) from om) (Ac rfl (Ac rfl (Ac Cb Bq))) (show Fit κ _ (blk b1 [I64 (nd),va] 48::I) from Ay) ?_)))))))
   rintro k hp
   have hk:=hp
   refine Ao (Ah (Gm rfl (Gm rfl (Gr (Bw Ab rfl) (Gr (Bc rfl rfl) (Af (A9 rfl (fun c20=>?_) (fun c20=>?_))))))))
   ·refine A0 (Ai (Ao (Ax (Ah (Gm rfl (Gr (Rad rfl rfl) (Ga rfl (Af (Ax (Bx (σ:=Nat) (fun s=>([(1,.slice sa X.length sc),(2,.pointer (some ⟨b1,0,none⟩)),(5,I64 ((k:Int))),(6,I64 (((s:Nat):Int)))]:Env)) (fun s=>blk b1 [I64 (nd),va] 48::I) (fun s=>(k<s∧s≤X.length)) (fun s=>X.length - s) (k+1) (show (k<(k+1:Nat)∧(k+1:Nat)≤X.length) from om) (Ac rfl (Ac rfl (Ac rfl (Ac Cb Bq)))) (show Fit κ _ (blk b1 [I64 (nd),va] 48::I) from Ay) ?_))))))))))
    rintro j hp
    have hj:=hp
    refine Ao (Ah (Gm rfl (Gm rfl (Gr (Bw Ab rfl) (Gr (Bc rfl rfl) (Af (A9 rfl (fun c28=>?_) (fun c28=>?_))))))))
    ·refine A0 (Ai (Ao (Ax (Ao (Bo mixed (Bu (blk b1 [I64 (nd),va] 48::I) 11 (Dr 0 rfl (Bm (vs:=[_,_]) ty48) ?_)))))))
     refine Dr 1 rfl (Ad rfl) (Dr 2 rfl (Ad rfl) (Dr 3 rfl (A8 (α:=Int) (xs:=X) Ab ty3 rfl rfl (Bf hs) om om) (Dr 4 rfl (B2 (xs:=X) ty3 rfl (Bf hs) om om) (Dr 5 rfl (Ad rfl) (Dr 6 rfl (Ad rfl) (Dr 7 rfl (A8 (α:=Int) (xs:=X) Ab ty3 rfl rfl (Bf hs) om om) (Dr 8 rfl (B2 (xs:=X) ty3 rfl (Bf hs) om om) (Ds1 9 (Se rfl (Am call64 rfl rfl (FindP03_ok (nd:=nd) (Bf hl) (at_ X (k:Int)) (at_ X (j:Int)))) ?_)))))))))
     rintro _ _ ⟨_,_,⟨y2,rfl,hy2,rfl⟩,rfl,rfl⟩
     refine ⟨Ay,?_⟩
     refine Dr 10 rfl (Bc rfl rfl) (Dz (Ai (As (S5 41 1 2 5 6 rfl rfl rfl rfl rfl) (A9 rfl (fun c41=>?_) (fun c41=>?_)))))
     ·exfalso;have h2:=(find_pos hG hy2).2 (clq_at hX om om);omega
     ·exact A0 (Aj (Ai (Aw (Gm rfl (Gr (Rad rfl rfl) (Ga rfl (Bj (B6 ((j+1)) om))))))))
    ·exact Bt (Ak (Ak (A6 (Aj (Ai (Aw (Gm rfl (Gr (Rad rfl rfl) (Ga rfl (Bj (B6 ((k+1)) om)))))))))))
   ·exact Bt (Ak (Ak (A6 (Ai (Ah (Ga rfl (Af (A2 (A7 rfl rfl (I) A4 ⟨rfl,rfl⟩)))))))))
theorem Maximal24_ok{nd:Int}{va:Value}{es:List Pt}{sa:Option Addr}{sc:Nat}{X:List Int}(hl:Sl κ I va es)(hs:Sl κ I (.slice sa X.length sc) X)(hG:GrOk nd es)(hX:ClqE nd es X)(h0:0<X.length) :
    CallS Tryz.prog κ 249 [.agg #[I64 (nd),va],.slice sa X.length sc] I (fun r J=>∃b:Bool,r = .bool b∧(b=true↔MaxE nd es X)∧I=J):=by
 have hrng:=hG.rng
 refine B4 hs.le fun hmax=>?_
 refine Ce2 Tryz.func249 rfl rfl ?_
 refine Ah (Ge1 (Bb (cs:=[_,_]) rfl rfl rfl) fun b1=>Ga rfl (Af (Ao (Ah (Gl2 ty48 ?_)))))
 refine Gm rfl (Gc0 (Am call290 rfl rfl (Is24_ok (nd:=nd) (X:=X) (Bf hl) (Bf hs) hG hX)) ?_)
 refine Gr (Cd rfl) (Gm rfl (Gro (Ad rfl) (Gro (Bw Ab rfl) (Gro (Bs rfl rfl) (Gr (Av rfl rfl) (Af (A9 rfl (fun c14=>?_) (fun c14=>?_))))))))
 ·omega
 ·refine A0 (Ai (Ao (Ah (Ga rfl (Af (As (S3 5 2 1 rfl rfl rfl) (Ax (Bx (σ:=Int) (fun s=>([(1,.slice sa X.length sc),(2,.pointer (some ⟨b1,0,none⟩)),(5,I64 (s))]:Env)) (fun s=>blk b1 [I64 (nd),va] 48::I) (fun s=>(0≤s∧s≤nd)∧(∀u,0≤u→u<s→¬fitP es X u)) (fun s=>(nd - s).toNat) (0) (show (0≤(0:Int)∧(0:Int)≤nd)∧(∀u,0≤u→u<(0:Int)→¬fitP es X u) from ⟨om,(fun u h1 h2=>by omega)⟩) (Ac rfl (Ac rfl (Ac Cb Bq))) (show Fit κ _ (blk b1 [I64 (nd),va] 48::I) from Ay) ?_))))))))
  rintro v hp
  obtain ⟨hv,hno⟩:=hp
  refine Ao (Ah (Gm rfl (Gf fld48_0 rfl (Gl ty3 ?_))))
  refine Gr (Bc rfl rfl) (Af (A9 rfl (fun c18=>?_) (fun c18=>?_)))
  ·refine A0 (Ai (Ao (Ax (Ah (Gl2 ty48 ?_)))))
   refine Gm rfl (Gm rfl (G.e (Am call248 rfl rfl (Fits24_ok (nd:=nd) (X:=X) (Bf hl) (Bf hs) hG (v:=v))) ?_))
   rintro _ _ ⟨_,_,⟨bf2,rfl,hfitbf2,rfl⟩,rfl,rfl⟩
   refine Af (W.cond rfl (fun c24=>?_) (fun c24=>?_))
   ·exact Ah (Ga rfl (Af (A2 (Ar (Al (Al (Ar (Al (A7 rfl rfl (I) A4 ⟨false,rfl,⟨fun h=>(by cases h),fun h=>absurd (hfitbf2.1 asm) (h.no v om om)⟩,rfl⟩)))))))))
   ·exact A0 (Aj (Ai (Aw (Gm rfl (Gr (Rad rfl rfl) (Ga rfl (Bj (B6 ((v+1)) ⟨om,(fun u h1 h2=>by by_cases e:u=v;(· rw [e];exact fun h=>by have:=hfitbf2.2 h;simp_all);(· exact hno u h1 om))⟩))))))))
  ·exact Bt (Ak (Ak (A6 (Ai (Ah (Ga rfl (Af (A2 (A7 rfl rfl (I) A4 ⟨true,rfl,⟨fun _=>⟨hX,(fun e=>by rw [e] at h0;cases h0),fun u h1 h2=>hno u h1 om⟩,fun _=>rfl⟩,rfl⟩)))))))))
theorem Fit.into{κ:Ctx}{A R B I:List Item}:Fit κ (A++R++(B++I)) (A++(B++(R++I))):=by
 refine Ea ?_
 rw [List.append_assoc]
 refine List.Perm.append_left A ?_
 rw [←List.append_assoc,←List.append_assoc]
 exact List.Perm.append_right I List.perm_append_comm
theorem Fit.outof{κ:Ctx}{A R B I:List Item}:Fit κ (A++(B++(R++I))) (A++R++(B++I)):=by
 refine Ea ?_
 rw [List.append_assoc]
 refine List.Perm.append_left A ?_
 rw [←List.append_assoc,←List.append_assoc]
 exact List.Perm.append_right I List.perm_append_comm
def GrowC24(κ:Ctx)(nd:Int)(va:Value)(es:List Pt)(N:Nat):Prop:=
 ∀(I:List Item) (S:List Int) (fm mo:Int) (sa:Option Addr) (sc:Nat) (os:List (RowG Int)) (oa:Option Addr) (oc:Nat),Sl κ I va es→Sl κ I (.slice sa S.length sc) S→ClqE nd es S→(∀x∈S,x<fm)→(0≤fm∧fm≤nd∧(nd - fm).toNat≤N)→((os.length:Int)+2 ^ (nd - fm).toNat≤mo+1∧mo≤1048576)→
  CallS Tryz.prog κ 208 [.agg #[I64 (nd),va],.slice sa S.length sc,I64 (fm),.slice oa os.length oc,I64 (mo)] (vc 22 (.slice oa os.length oc) (os)::(ownR 3 os++I)) (fun r J=>∃(oa':Option Addr) (oc':Nat) (R' os':List (RowG Int)),r = .slice oa' os'.length oc'∧(os'=os++R'∧GrowTo nd es S fm nd (R'.map RowG.xs))∧J=vc 22 (.slice oa' os'.length oc') (os')::(ownR 3 os'++I))
set_option maxHeartbeats 2000000 in
theorem Grow24_step{κ:Ctx}{I:List Item}{nd:Int}{va:Value}{es:List Pt}{sa oa:Option Addr}{sc oc:Nat}{S:List Int}{fm mo:Int}{os:List (RowG Int)}(hl:Sl κ I va es)(hs:Sl κ I (.slice sa S.length sc) S)(hG:GrOk nd es)(ih:1≤(nd - fm).toNat→GrowC24 κ nd va es ((nd - fm).toNat - 1))(hS:ClqE nd es S)(hlt:∀x∈S,x<fm)(hfm:0≤fm∧fm≤nd)(hmo:(os.length:Int)+2 ^ (nd - fm).toNat≤mo+1∧mo≤1048576) :
    CallS Tryz.prog κ 208 [.agg #[I64 (nd),va],.slice sa S.length sc,I64 (fm),.slice oa os.length oc,I64 (mo)] (vc 22 (.slice oa os.length oc) (os)::(ownR 3 os++I)) (fun r J=>∃(oa':Option Addr) (oc':Nat) (R' os':List (RowG Int)),r = .slice oa' os'.length oc'∧(os'=os++R'∧GrowTo nd es S fm nd (R'.map RowG.xs))∧J=vc 22 (.slice oa' os'.length oc') (os')::(ownR 3 os'++I)):=by
 have hrng:=hG.rng
 have hSl:=hS.len
 refine Ce5 Tryz.func208 rfl rfl ?_
 refine Ah (Ge1 (Bb (cs:=[_,_]) rfl rfl rfl) fun b1=>Ga rfl (Af (Ao (Ah (Gm rfl (Ga rfl (Af (Ax (Bx (σ:=Int×(Option Addr)×Nat×(List (RowG Int))×(List (RowG Int))) (fun s=>([(1,.slice sa S.length sc),(3,.slice s.2.1 s.2.2.2.1.length s.2.2.1),(4,I64 (mo)),(5,.pointer (some ⟨b1,0,none⟩)),(11,I64 (s.1))]:Env)) (fun s=>vc 22 (.slice s.2.1 s.2.2.2.1.length s.2.2.1) (s.2.2.2.1)::blk b1 [I64 (nd),va] 48::(ownR 3 s.2.2.2.1++I)) (fun s=>(fm≤s.1∧s.1≤nd)∧(s.2.2.2.1=os++s.2.2.2.2)∧(GrowTo nd es S fm s.1 (s.2.2.2.2.map RowG.xs))) (fun s=>(nd - s.1).toNat) (fm,oa,oc,os,[]) (show (fm≤(fm:Int)∧(fm:Int)≤nd)∧((os:List (RowG Int))=os++([]:List (RowG Int)))∧(GrowTo nd es S fm (fm:Int) (([]:List (RowG Int)).map RowG.xs)) from ⟨om,(List.append_nil os).symm,(GrowTo.start nd es S fm)⟩) (Ac rfl (Ac (Cz rfl (by first|rfl|simp)) (Ac rfl (Ac rfl (Ac Cb Bq))))) (show Fit κ _ (vc 22 (.slice (oa) (os).length (oc)) ((os))::blk b1 [I64 (nd),va] 48::(ownR 3 (os)++I)) from B7) ?_)))))))))
 rintro ⟨v,oa1,oc1,os1,R⟩ hp
 dsimp only at hp ⊢
 obtain ⟨hv,hos,hGT⟩:=hp
 have hGl:=hGT.len
 rw [List.length_map] at hGl
 have hp1:=pow_pos2 (nd - v).toNat
 have hosl:os1.length=os.length+R.length:=by rw [hos,List.length_append]
 have hpv:=fun h:v<nd=>pow_half h
 have hpw:=pow_pos2 (nd - (v+1)).toNat
 refine Ao (Ah (Gm rfl (Gf fld48_0 rfl (Gl ty3 ?_))))
 refine Gr (Bc rfl rfl) (Af (A9 rfl (fun c17=>?_) (fun c17=>?_)))
 ·refine A0 (Ai (Ao (Ax (Ah (Gm rfl (Gr (Bw Bp rfl) (Gm rfl (Gr (Dw rfl rfl) (Gm rfl (Bi (d:=24) rfl (fun g24=>?_) (fun g24=>?_)))))))))))
  ·refine Gro (Bm (vs:=[_,_]) ty48) ?_
   refine Gro (Ad rfl) (Gro (Ad rfl) (Eu (Cv rfl rfl rfl) (Am call248 rfl rfl (Fits24_ok (nd:=nd) (X:=S) (Bf hl) (Bf hs) hG (v:=v))) ?_))
   rintro _ _ ⟨_,_,⟨bf2,rfl,hfitbf2,rfl⟩,rfl,rfl⟩
   refine Gr (Ap rfl rfl) (Af (As (S6 29 1 3 4 5 11 rfl rfl rfl rfl rfl rfl) (W.cond rfl (fun c29=>?_) (fun c29=>?_))))
   ·refine Ah (Gm rfl ?_)
    have hfv:fitP es S v:=hfitbf2.1 (by first|assumption|simp_all)
    have hnx:ClqE nd es (S++[v]):=hS.snoc om (fun x hx=>by have:=hlt x hx;omega) hfv
    have hnl:∀x∈S++[v],x<v+1:=fun x hx=>by rcases List.mem_append.1 hx with h|h;(· have:=hlt x h;omega);(· rw [List.mem_singleton.1 h];omega)
    refine Ge2 (Eff.clone (α:=Int) (ys:=S) Ab ty3 rfl rfl rfl (Bf hs) olp dc rfl) fun ad3 cp4=>?_
    refine Gm rfl (Ge1 (B9 (α:=Int) (cs:=[_]) (xs:=[v]) Ab ty3 rfl rfl dc dc rfl rfl rfl rfl) fun ad5=>?_)
    refine Ge2 (Ca (α:=Int) (e:=3) (xs:=S) (ys:=([v]:List Int)) Ab ty3 rfl rfl rfl mm Br olp dc rfl (fun _ _=>am)) fun ad6 cp7=>?_
    refine Ga rfl (Af (Ah (Gl2 ty48 ?_)))
    refine Gm rfl (G.e (Am call249 rfl rfl (Maximal24_ok (nd:=nd) (X:=S++([v]:List Int)) (Bf hl) Br hG hnx (by simp))) ?_)
    rintro _ _ ⟨_,_,⟨bm8,rfl,hmxbm8,rfl⟩,rfl,rfl⟩
    refine Af (As (S7 37 12 1 3 4 5 11 rfl rfl rfl rfl rfl rfl rfl) (W.cond rfl (fun c37=>?_) (fun c37=>?_)))
    ·refine Aw (Gm rfl (Gm rfl (Ge1 (B9 (α:=(RowG Int)) (cs:=[_]) (xs:=[⟨ad6,cp7,S++([v]:List Int)⟩]) Bp ty22 rfl rfl dc dc rfl rfl rfl rfl) fun ad9=>?_)))
     refine Ge2 (Ca (α:=(RowG Int)) (e:=22) (xs:=os1) (ys:=([⟨ad6,cp7,S++([v]:List Int)⟩]:List (RowG Int))) Bp ty22 rfl rfl rfl mm Br olp dc rfl (fun _ _=>am)) fun ad10 cp11=>?_
     exact Ga rfl (Bj (Aj (Ai (Aw (Gm rfl (Gr (Rad rfl rfl) (Ga rfl (Bj (B6 ((v+1),(ad10),(cp11),(os1++[(⟨ad6,cp7,S++([v]:List Int)⟩:RowG Int)]),(R++[(⟨ad6,cp7,S++([v]:List Int)⟩:RowG Int)])) (by dsimp only;exact ⟨om,(by rw [hos,List.append_assoc]),(by rw [List.map_append];exact hGT.one om om (hmxbm8.1 (by first|assumption|simp_all)))⟩) (hI:=by (try dsimp only);exact (Cm (show Fit κ _ ([vc 22 (.slice ad10 (os1++[(⟨ad6,cp7,S++([v]:List Int)⟩:RowG Int)]).length cp11) (os1++[(⟨ad6,cp7,S++([v]:List Int)⟩:RowG Int)]),blk b1 [I64 (nd),va] 48]++vc 3 (.slice ad6 (S++([v]:List Int)).length cp7) (S++([v]:List Int))::(ownR 3 os1++I)) from B7) (Fit.ownR_snoc (A:=[vc 22 (.slice ad10 (os1++[(⟨ad6,cp7,S++([v]:List Int)⟩:RowG Int)]).length cp11) (os1++[(⟨ad6,cp7,S++([v]:List Int)⟩:RowG Int)]),blk b1 [I64 (nd),va] 48]) (e:=3) (rs:=os1) (r:=(⟨ad6,cp7,S++([v]:List Int)⟩:RowG Int))))))))))))))
    ·refine Aw (Gl2 ty48 ?_)
     refine Gm rfl (Gm rfl (Gr (Rad rfl rfl) (Gm rfl (Gm rfl (G.e (Am call208 rfl rfl (Cn (show Fit κ _ (vc 22 (.slice oa1 os1.length oc1) (os1)::(ownR 3 os1++(vc 3 (.slice ad5 1 1) (([v]:List Int))::vc 3 (.slice ad6 (S++([v]:List Int)).length cp7) (S++([v]:List Int))::blk b1 [I64 (nd),va] 48::I))) from (Cm (show Fit κ _ (vc 22 (.slice oa1 os1.length oc1) (os1)::vc 3 (.slice ad5 1 1) (([v]:List Int))::vc 3 (.slice ad6 (S++([v]:List Int)).length cp7) (S++([v]:List Int))::blk b1 [I64 (nd),va] 48::(ownR 3 os1++I)) from B7) (by have hfi:=Fit.into (κ:=κ) (A:=[vc 22 (.slice oa1 os1.length oc1) (os1)]) (R:=[vc 3 (.slice ad5 1 1) (([v]:List Int)),vc 3 (.slice ad6 (S++([v]:List Int)).length cp7) (S++([v]:List Int)),blk b1 [I64 (nd),va] 48]) (B:=ownR 3 os1) (I:=I);simp only [List.cons_append,List.nil_append] at hfi;exact hfi))) (ih om (vc 3 (.slice ad5 1 1) (([v]:List Int))::vc 3 (.slice ad6 (S++([v]:List Int)).length cp7) (S++([v]:List Int))::blk b1 [I64 (nd),va] 48::I) (S++([v]:List Int)) (v+1) mo ad6 cp7 os1 oa1 oc1 (Bf hl) Br hnx hnl om om))) ?_)))))
     rintro _ _ ⟨_,_,⟨oa12,oc13,RR14,os15,rfl,⟨hqos15,hgos15⟩,rfl⟩,rfl,rfl⟩
     refine G.fit (J:=vc 22 (.slice oa12 os15.length oc13) (os15)::vc 3 (.slice ad5 1 1) (([v]:List Int))::vc 3 (.slice ad6 (S++([v]:List Int)).length cp7) (S++([v]:List Int))::blk b1 [I64 (nd),va] 48::(ownR 3 os15++I)) (by have hfo:=Fit.outof (κ:=κ) (A:=[vc 22 (.slice oa12 os15.length oc13) (os15)]) (R:=[vc 3 (.slice ad5 1 1) (([v]:List Int)),vc 3 (.slice ad6 (S++([v]:List Int)).length cp7) (S++([v]:List Int)),blk b1 [I64 (nd),va] 48]) (B:=ownR 3 os15) (I:=I);simp only [List.cons_append,List.nil_append] at hfo;exact hfo) ?_
     exact Ga rfl (Bj (Aj (Ai (As (S5 3 1 4 5 11 rfl rfl rfl rfl rfl) (Aw (Gm rfl (Gr (Rad rfl rfl) (Ga rfl (Bj (B6 ((v+1),(oa12),(oc13),(os15),(R++RR14)) (by dsimp only;exact ⟨om,(by rw [hqos15,hos,List.append_assoc]),(by rw [List.map_append];exact hGT.more om om (fun h=>by have h2:=hmxbm8.2 h;first|exact absurd h2 asm|simp_all) hgos15)⟩)))))))))))
   ·exact A0 (Aj (Ai (Aw (Gm rfl (Gr (Rad rfl rfl) (Ga rfl (Bj (B6 ((v+1),(oa1),(oc1),(os1),(R)) (by dsimp only;exact ⟨om,hos,(hGT.skip om (fun h=>by have h2:=hfitbf2.2 h;first|exact absurd h2 asm|simp_all))⟩)))))))))
  ·exfalso;omega
 ·refine Bt (Ak (Ak (A6 (Ai (Ah (Gm rfl (Ga rfl (Af (A2 ?_)))))))))
  have hve:v=nd:=by omega
  exact A7 rfl rfl (vc 22 (.slice oa1 os1.length oc1) (os1)::(ownR 3 os1++I)) (by first|exact B7|exact Ay) ⟨oa1,oc1,R,os1,rfl,⟨hos,by rw [←hve];rw [hve] at hGT ⊢; exact hGT⟩,rfl⟩
theorem grow24_all{κ:Ctx}{nd:Int}{va:Value}{es:List Pt}(hG:GrOk nd es):∀N,GrowC24 κ nd va es N:=fun N=>by
 induction N with
 |zero=>exact fun I S fm mo sa sc os oa oc hl hs hS hlt hfm hmo=>Grow24_step hl hs hG (fun h=>absurd h om) hS hlt ⟨hfm.1,hfm.2.1⟩ hmo
 |succ N ih=>exact fun I S fm mo sa sc os oa oc hl hs hS hlt hfm hmo=>Grow24_step hl hs hG (fun h=>fun I' S' fm' mo' sa' sc' os' oa' oc' h1 h2 h3 h4 h5 h6=>ih I' S' fm' mo' sa' sc' os' oa' oc' h1 h2 h3 h4 om h6) hS hlt ⟨hfm.1,hfm.2.1⟩ hmo
variable {κ:Ctx}{I:List Item}
theorem pow7{n:Nat}(h:n≤7):(2:Int) ^ n≤128:=by
 obtain ⟨k,hk⟩:∃k:Fin 8,n=k.val:=⟨⟨n,by omega⟩,rfl⟩
 subst hk
 revert k
 decide
theorem FitW2{κ:Ctx}{A B:List Item}{R I:List Item}{x b:Item}(h:A=x::(R++(b::I)):=by rfl)(h2:B=x::(R++I):=by rfl):Fit κ A B:=by
 subst h h2
 exact Fit.of_sublist (List.Sublist.cons_cons _ (List.Sublist.append_left (List.sublist_cons_self _ _) R))
theorem List24_ok{nd mo:Int}{va:Value}{es:List Pt}(hl:Sl κ I va es)(hG:GrOk nd es)(h7:nd≤7)(hm:1000≤mo∧mo≤1048576) :
    CallS Tryz.prog κ 137 [.agg #[I64 (nd),va],I64 (mo)] I (fun r J=>∃a c R,r = .slice a (R:List (RowG Int)).length c∧(GrowTo nd es [] 0 nd (R.map RowG.xs)∧R.length≤128)∧J=vc 22 (.slice a R.length c) R::(ownR 3 R++I)):=by
 have hrng:=hG.rng
 have hp7:(2:Int) ^ (nd - 0).toNat≤128:=pow7 om
 have hmo0:((([]:List (RowG Int)).length:Nat):Int)+2 ^ (nd - 0).toNat≤mo+1∧mo≤1048576:=⟨by simp only [List.length_nil];omega,hm.2⟩
 refine Ce2 Tryz.func137 rfl rfl ?_
 refine Ah (Ge1 (Bb (cs:=[_,_]) rfl rfl rfl) fun b1=>Ga rfl (Af (Ah (Ga rfl (Af (Ah (Gl2 ty48 ?_)))))))
 refine Gm rfl (Gm rfl (G.e (Am call208 rfl rfl (Cn (show Fit κ _ (vc 22 (.slice none ([]:List (RowG Int)).length 0) ([]:List (RowG Int))::(ownR 3 ([]:List (RowG Int))++(blk b1 [I64 (nd),va] 48::I))) from B3 (α:=RowG Int) _ _) (grow24_all hG (nd - 0).toNat (blk b1 [I64 (nd),va] 48::I) [] 0 mo none 0 [] none 0 (Bf hl) (Sl.nil _) (ClqE.nil _ _) (fun x hx=>by cases hx) om hmo0))) ?_))
 rintro _ _ ⟨_,_,⟨oa2,oc3,Rq,Oq,rfl,⟨hqO,hgO⟩,rfl⟩,rfl,rfl⟩
 refine Ga rfl (Af (Ah (Gm rfl (Ga rfl (Af (A2 ?_))))))
 rw [List.nil_append] at hqO
 subst hqO
 have hgl:=hgO.len
 rw [List.length_map,show (nd - nd).toNat=0 by omega] at hgl
 exact A7 rfl rfl (vc 22 (.slice oa2 Oq.length oc3) Oq::(ownR 3 Oq++I)) (by first|exact FitW2|exact FitW) ⟨oa2,oc3,Oq,rfl,⟨hgO,by omega⟩,rfl⟩
theorem row_xs{R:List (RowG Int)}{k:Nat}(h:k<R.length):at_ (R.map RowG.xs) (k:Int)=(at_ R (k:Int)).xs:=by
 rw [D3 _ k (by rw [List.length_map];exact h),D3 _ k h,List.getElem_map]
set_option maxHeartbeats 1000000 in
theorem Best26_ok{nd:Int}{va:Value}{es:List Pt}(hl:Sl κ I va es)(hG:GrOk nd es)(h7:nd≤7) :
    CallS Tryz.prog κ 74 [.agg #[I64 (nd),va]] I (fun r J=>∃a c X R,r = .tuple #[.slice a (X:List Int).length c,I64 0]∧bestCl nd es X∧Sl κ (ownR 3 (R:List (RowG Int))++I) (.slice a X.length c) X∧J=ownR 3 R++I):=by
 refine Ce1 Tryz.func74 rfl rfl ?_
 refine Ah (Ge1 (Bb (cs:=[_,_]) rfl rfl rfl) fun b1=>Ga rfl (Ga rfl (Af (Ao (Ah (Gl2 ty48 ?_))))))
 refine G.e (Am call30 rfl rfl (Check03G_ok (nd:=nd) (Bf hl))) ?_
 rintro _ _ ⟨_,_,⟨rfl,rfl⟩,rfl,rfl⟩
 refine Ga rfl (Af (Ah (Gm rfl (Gr (Bv rfl rfl) (Af (A9 rfl (fun c11=>?_) (fun c11=>?_)))))))
 ·exact absurd (checkG_ok.2 hG) c11
 ·refine A0 (Ai (Ah (Ga rfl (Af (Ah (Gl2 ty48 ?_))))))
  refine G.e (Am call137 rfl rfl (List24_ok (nd:=nd) (mo:=1048576) (Bf hl) hG om om)) ?_
  rintro _ _ ⟨_,_,⟨ad2,cp3,R24,rfl,⟨hg24,hl24⟩,rfl⟩,rfl,rfl⟩
  refine G.fit (J:=vc 22 (.slice ad2 R24.length cp3) (R24)::blk b1 [I64 (nd),va] 48::(ownR 3 R24++I)) (Ea (List.Perm.cons _ (perm_fr (A:=ownR 3 R24) (L:=[blk b1 [I64 (nd),va] 48]) (T:=I)))) ?_
  refine Ga rfl (Af (Ao (Ah (Ga rfl (Af (As (S3 7 6 5 rfl rfl rfl) (Ax (Bx (σ:=Nat×(Option Addr)×Nat×(List Int)) (fun s=>([(5,.slice s.2.1 s.2.2.2.length s.2.2.1),(6,.slice ad2 R24.length cp3),(7,I64 (((s.1:Nat):Int)))]:Env)) (fun s=>vc 22 (.slice ad2 R24.length cp3) (R24)::blk b1 [I64 (nd),va] 48::(ownR 3 R24++I)) (fun s=>(s.1≤R24.length)∧(PickL (R24.map RowG.xs) s.1 s.2.2.2)∧(Sl κ (ownR 3 R24++I) (.slice s.2.1 s.2.2.2.length s.2.2.1) s.2.2.2)) (fun s=>R24.length - s.1) (0,none,0,[]) (show ((0:Nat)≤R24.length)∧(PickL (R24.map RowG.xs) (0:Nat) ([]:List Int))∧(Sl κ (ownR 3 R24++I) (.slice (none:Option Addr) ([]:List Int).length (0:Nat)) ([]:List Int)) from ⟨om,(PickL.start _),(Sl.nil _)⟩) (Ac (Cz rfl (by first|rfl|simp)) (Ac rfl (Ac Cb Bq))) (show Fit κ _ (vc 22 (.slice ad2 R24.length cp3) (R24)::blk b1 [I64 (nd),va] 48::(ownR 3 R24++I)) from Ay) ?_))))))))
  rintro ⟨k,pa,pc,o⟩ hp
  dsimp only at hp ⊢
  obtain ⟨hk,hPk,hO⟩:=hp
  refine Ao (Ah (Gm rfl (Gm rfl (Gr (Bw Bp rfl) (Gr (Bc rfl rfl) (Af (A9 rfl (fun c18=>?_) (fun c18=>?_))))))))
  ·refine A0 (Ai (Ao (Ax (Ah (Gm rfl (Gm rfl (Gr (A8 (α:=(RowG Int)) (xs:=R24) Bp ty22 rfl rfl Br om om) (Gr (Cs (α:=(RowG Int)) (xs:=R24) (u:= .slice (at_ R24 (k:Int)).a (at_ R24 (k:Int)).xs.length (at_ R24 (k:Int)).c) ty22 rfl Br om om rfl) (Gr (Bw Ab rfl) (Gm rfl (Gr (Bw Ab rfl) (Gr (B5 rfl rfl) (Af (As (S4 28 5 6 7 rfl rfl rfl rfl) (A9 rfl (fun c28=>?_) (fun c28=>?_))))))))))))))))
   ·exact Aw (Gm rfl (Gm rfl (Gr (A8 (α:=(RowG Int)) (xs:=R24) Bp ty22 rfl rfl Br om om) (Gr (Cs (α:=(RowG Int)) (xs:=R24) (u:= .slice (at_ R24 (k:Int)).a (at_ R24 (k:Int)).xs.length (at_ R24 (k:Int)).c) ty22 rfl Br om om rfl) (Ga rfl (Bj (Aj (Ai (Aw (Gm rfl (Gr (Rad rfl rfl) (Ga rfl (Bj (B6 ((k+1),((at_ R24 (k:Int)).a),((at_ R24 (k:Int)).c),((at_ R24 (k:Int)).xs)) (by dsimp only;exact ⟨om,(by rw [←row_xs om];exact hPk.take (by rw [row_xs om];omega)),(ow_held om om)⟩)))))))))))))))
   ·exact A0 (Aj (Ai (Aw (Gm rfl (Gr (Rad rfl rfl) (Ga rfl (Bj (B6 ((k+1),(pa),(pc),(o)) (by dsimp only;exact ⟨om,(hPk.keep (by rw [row_xs om];omega)),hO⟩)))))))))
  ·refine Bt (Ak (Ak (A6 (Ai (Ah (Gm rfl (Ga rfl (Ga rfl (Af (A2 ?_))))))))))
   have hb:bestCl nd es o:=pick_best hG hg24 (by rw [List.length_map,show R24.length=k by omega];exact hPk)
   exact C9 rfl rfl rfl (ownR 3 R24++I) FitW ⟨pa,pc,o,R24,rfl,hb,hO,rfl⟩
variable {κ:Ctx}{I:List Item}
theorem nbG_asc(nd:Int)(es:List Pt)(v:Int):(nbG nd es v).Pairwise (fun x0 x1:Int=>x0<x1):=by
 unfold nbG
 split
 ·exact List.Pairwise.nil
 ·exact ofL_asc _
theorem inter_common{nd:Int}{es:List Pt}{u v:Int}(h:u≠v):interF (nbG nd es u) (nbG nd es v)=commonG nd es u v:=by
 unfold commonG
 rw [if_neg h]
 refine intLin.uniq ((nbG_asc nd es u).sublist List.filter_sublist) ?_ fun x=>?_
 ·unfold meetL;exact (ofL_asc _).sublist List.filter_sublist
 ·rw [mem_meetL];unfold interF;rw [List.mem_filter,decide_eq_true_eq]
theorem Shared_any{a0 b0:Option Addr}{n0 m0 c0 d0:Nat}{xs ys:List Int}(hn:n0=xs.length)(hm0:m0=ys.length)(hl:Sl κ I (.slice a0 n0 c0) xs)(hm:Sl κ I (.slice b0 m0 d0) ys)(hx:xs.Pairwise (fun x0 x1:Int=>x0<x1))(hy:ys.Pairwise (fun x0 x1:Int=>x0<x1))(hb:xs.length≤100000) :
  CallS Tryz.prog κ 289 [.slice a0 n0 c0,.slice b0 m0 d0] I fun r J=>∃a c,r = .slice a (interF xs ys).length c∧J=vc 3 (.slice a (interF xs ys).length c) (interF xs ys)::I:=by
 subst hn hm0
 exact Shared_ok hl hm hx hy hb
set_option maxHeartbeats 2000000 in
theorem Counts_ok{nd:Int}{va:Value}{es:List Pt}(hl:Sl κ I va es)(hG:GrOk nd es) :
    CallS Tryz.prog κ 244 [.agg #[I64 (nd),va]] I (fun r J=>∃a c,∃out:List Int,r = .tuple #[I64 (triS nd es / 3),.slice a out.length c]∧J=vc 3 (.slice a out.length c) out::I):=by
 have hrng:=hG.rng
 have hle:=edges_le hG
 have htS:=triS_bd hG
 refine Ce1 Tryz.func244 rfl rfl ?_
 refine Ah (Ge1 (Bb (cs:=[_,_]) rfl rfl rfl) fun b1=>Ga rfl (Ga rfl (Af (Ah (Gl2 ty48 ?_)))))
 refine G.e (Am call288 rfl rfl (Lists_ok (nd:=nd) (Bf hl) hG)) ?_
 rintro _ _ ⟨_,_,⟨ad2,cp3,rs,rs2,rfl,hLR,rfl⟩,rfl,rfl⟩
 refine G.fit (J:=vc 22 (.slice ad2 rs.length cp3) (rs)::blk b1 [I64 (nd),va] 48::(ownR 3 rs2++I)) (Ea (List.Perm.cons _ (perm_fr (A:=ownR 3 rs2) (L:=[blk b1 [I64 (nd),va] 48]) (T:=I)))) ?_
 have hlrl:=hLR.len
 refine Ga rfl (Af (Ao (Bo mixed (Bu (vc 22 (.slice ad2 rs.length cp3) (rs)::blk b1 [I64 (nd),va] 48::(ownR 3 rs2++I)) 5 (Dr 0 rfl (Aa fld48_0 rfl) (Dr 1 rfl (Au ty3) ?_))))))
 refine Dr 3 rfl (Bd rfl) (Ds1 2 (Se2 rfl (Cp (α:=Int) (n:=nd.toNat) Ab ty3 rfl rfl rfl om om dc rfl) fun ad4 cp5=>?_))
 refine Dr 4 rfl (Bd rfl) (Dz (Ai (Ao (Ah (Gf fld48_1 rfl (Gl ty46 ?_))))))
 refine Gr (Bz (α:=Pt) (xs:=es) Bh rfl (Bf hl)) (Gm rfl (Af (As (S6 19 18 17 6 5 4 rfl rfl rfl rfl rfl rfl) (Ax (Bx (σ:=Nat×(List Int)×Int) (fun s=>([(4,.slice ad2 rs.length cp3),(5,I64 (s.2.2)),(6,.slice ad4 (List.replicate nd.toNat (default:Int)).length cp5),(17,va),(18,I64 (((es.length:Nat):Int))),(19,I64 (((s.1:Nat):Int)))]:Env)) (fun s=>vc 3 (.slice ad4 (List.replicate nd.toNat (default:Int)).length cp5) (s.2.1)::vc 22 (.slice ad2 rs.length cp3) (rs)::blk b1 [I64 (nd),va] 48::(ownR 3 rs2++I)) (fun s=>(s.1≤es.length)∧(s.2.2=triK nd es s.1)∧(s.2.1.length=nd.toNat)∧(s.2.1.sum=s.2.2)∧(∀x∈s.2.1,0≤x)) (fun s=>es.length - s.1) (0,List.replicate nd.toNat (default:Int),0) (show ((0:Nat)≤es.length)∧((0:Int)=triK nd es (0:Nat))∧((List.replicate nd.toNat (default:Int):List Int).length=nd.toNat)∧((List.replicate nd.toNat (default:Int):List Int).sum=(0:Int))∧(∀x∈(List.replicate nd.toNat (default:Int):List Int),0≤x) from ⟨om,rfl,(by rw [List.length_replicate]),(sumL_rep _),(fun x hx=>by rw [List.eq_of_mem_replicate hx];exact Int.le_refl 0)⟩) (Ac rfl (Ac Cb (Ac rfl (Ac rfl (Ac rfl (Ac Cb Bq)))))) (show Fit κ _ (vc 3 (.slice ad4 (List.replicate nd.toNat (default:Int)).length cp5) ((List.replicate nd.toNat (default:Int)))::vc 22 (.slice ad2 rs.length cp3) (rs)::blk b1 [I64 (nd),va] 48::(ownR 3 rs2++I)) from B7) ?_)))))
 rintro ⟨k,out,q⟩ hp
 dsimp only at hp ⊢
 obtain ⟨hk,hq,hol,hos,ho0⟩:=hp
 have htb:=fun h:k≤es.length=>triK_bd nd es k h
 have hed:=fun h:k<es.length=>hG.at h
 refine Ah (Gr (Bc rfl rfl) (Af (Ao (A9 rfl (fun c20=>?_) (fun c20=>?_)))))
 ·refine A0 (Ai (Ao (Ax (Ah (Gr (A8 (α:=Pt) (xs:=es) Bh ty135 rfl rfl (Bf hl) om oo) (Gr (B0 (α:=Pt) (xs:=es) ty135 rfl (Bf hl) om oo) (Ge1 (A5 ty135 rfl) fun b6=>Ge0 (B1 ty135) ?_)))))))
  refine Af (Ao (Bo mixed (Bu (blk b6 [I64 ((at_ es (k:Int)).u),I64 ((at_ es (k:Int)).v)] 135::vc 3 (.slice ad4 (List.replicate nd.toNat (default:Int)).length cp5) (out)::vc 22 (.slice ad2 rs.length cp3) (rs)::blk b1 [I64 (nd),va] 48::(ownR 3 rs2++I)) 13 (Dr 0 rfl (Ad rfl) (Dr 1 rfl (Aa fld135_0 rfl) (Dr 2 rfl (Au ty3) ?_))))))
  refine Dr 3 rfl (A8 (α:=(RowG Int)) (xs:=rs) Bp ty22 rfl rfl Br om oo) (Dr 4 rfl (Cs (α:=(RowG Int)) (xs:=rs) (u:= .slice (at_ rs ((at_ es (k:Int)).u)).a (at_ rs ((at_ es (k:Int)).u)).xs.length (at_ rs ((at_ es (k:Int)).u)).c) ty22 rfl Br om oo rfl) (Dr 5 rfl (Ad rfl) (Dr 6 rfl (Aa fld135_1 rfl) (Dr 7 rfl (Au ty3) ?_))))
  refine Dr 8 rfl (A8 (α:=(RowG Int)) (xs:=rs) Bp ty22 rfl rfl Br om oo) (Dr 9 rfl (Cs (α:=(RowG Int)) (xs:=rs) (u:= .slice (at_ rs ((at_ es (k:Int)).v)).a (at_ rs ((at_ es (k:Int)).v)).xs.length (at_ rs ((at_ es (k:Int)).v)).c) ty22 rfl Br om oo rfl) (Dr 12 rfl (Ad rfl) (Ds1 10 (Se rfl (Am call289 rfl rfl (Shared_any (hLR.row _ om om).2 (hLR.row _ om om).2 (Ch (hLR.held (I:=I) (i:=((at_ es (k:Int)).u)) om om) A4) (Ch (hLR.held (I:=I) (i:=((at_ es (k:Int)).v)) om om) A4) (nbG_asc _ _ _) (nbG_asc _ _ _) (by have:=nbG_len nd es (at_ es (k:Int)).u;omega))) ?_))))
  rintro _ _ ⟨_,_,⟨ad7,cp8,rfl,rfl⟩,rfl,rfl⟩
  refine ⟨Ay,?_⟩
  have hint:interF (nbG nd es ((at_ es (k:Int)).u)) (nbG nd es ((at_ es (k:Int)).v))=commonG nd es (at_ es (k:Int)).u (at_ es (k:Int)).v:=inter_common (by have:=hed om;omega)
  rw [hint]
  refine Dr 11 rfl (Bw Ab rfl) (Dz (Ai (As (S9 34 33 35 4 5 6 17 18 19 rfl rfl rfl rfl rfl rfl rfl rfl rfl) (Ax (Bx (σ:=Nat×(List Int)×Int) (fun s=>([(4,.slice ad2 rs.length cp3),(5,I64 (s.2.2)),(6,.slice ad4 (List.replicate nd.toNat (default:Int)).length cp5),(17,va),(18,I64 (((es.length:Nat):Int))),(19,I64 ((k:Int))),(33,.slice ad7 (commonG nd es (at_ es (k:Int)).u (at_ es (k:Int)).v).length cp8),(34,I64 ((((commonG nd es (at_ es (k:Int)).u (at_ es (k:Int)).v).length:Nat):Int))),(35,I64 (((s.1:Nat):Int)))]:Env)) (fun s=>vc 3 (.slice ad4 (List.replicate nd.toNat (default:Int)).length cp5) (s.2.1)::vc 3 (.slice ad7 (commonG nd es (at_ es (k:Int)).u (at_ es (k:Int)).v).length cp8) (commonG nd es (at_ es (k:Int)).u (at_ es (k:Int)).v)::blk b6 [I64 ((at_ es (k:Int)).u),I64 ((at_ es (k:Int)).v)] 135::vc 22 (.slice ad2 rs.length cp3) (rs)::blk b1 [I64 (nd),va] 48::(ownR 3 rs2++I)) (fun s=>(s.1≤(commonG nd es (at_ es (k:Int)).u (at_ es (k:Int)).v).length)∧(s.2.2=triK nd es k+(s.1:Int))∧(s.2.1.length=nd.toNat)∧(s.2.1.sum=s.2.2)∧(∀x∈s.2.1,0≤x)) (fun s=>(commonG nd es (at_ es (k:Int)).u (at_ es (k:Int)).v).length - s.1) (0,out,q) (show ((0:Nat)≤(commonG nd es (at_ es (k:Int)).u (at_ es (k:Int)).v).length)∧((q:Int)=triK nd es k+((0:Nat):Int))∧((out:List Int).length=nd.toNat)∧((out:List Int).sum=(q:Int))∧(∀x∈(out:List Int),0≤x) from ⟨om,(by rw [hq];simp),hol,hos,ho0⟩) (Ac rfl (Ac Cb (Ac rfl (Ac rfl (Ac rfl (Ac rfl (Ac rfl (Ac rfl (Ac Cb Bq))))))))) (show Fit κ _ (vc 3 (.slice ad4 (List.replicate nd.toNat (default:Int)).length cp5) ((out))::vc 3 (.slice ad7 (commonG nd es (at_ es (k:Int)).u (at_ es (k:Int)).v).length cp8) (commonG nd es (at_ es (k:Int)).u (at_ es (k:Int)).v)::blk b6 [I64 ((at_ es (k:Int)).u),I64 ((at_ es (k:Int)).v)] 135::vc 22 (.slice ad2 rs.length cp3) (rs)::blk b1 [I64 (nd),va] 48::(ownR 3 rs2++I)) from B7) ?_)))))
  rintro ⟨k2,out2,q2⟩ hp
  dsimp only at hp ⊢
  obtain ⟨hk2,hq2,hol2,hos2,ho02⟩:=hp
  have hcw:k2<(commonG nd es (at_ es (k:Int)).u (at_ es (k:Int)).v).length→0≤at_ (commonG nd es (at_ es (k:Int)).u (at_ es (k:Int)).v) (k2:Int)∧at_ (commonG nd es (at_ es (k:Int)).u (at_ es (k:Int)).v) (k2:Int)<nd:=fun h=>common_rng hG (Ck om om)
  have hcl:=commonG_len nd es (at_ es (k:Int)).u (at_ es (k:Int)).v
  have hox:k2<(commonG nd es (at_ es (k:Int)).u (at_ es (k:Int)).v).length→0≤at_ out2 (at_ (commonG nd es (at_ es (k:Int)).u (at_ es (k:Int)).v) (k2:Int))∧at_ out2 (at_ (commonG nd es (at_ es (k:Int)).u (at_ es (k:Int)).v) (k2:Int))≤1000000:=fun h=>by have h1:=hcw h;have h2:=Ck (xs:=out2) (i:=at_ (commonG nd es (at_ es (k:Int)).u (at_ es (k:Int)).v) (k2:Int)) om om;have h3:=mem_le_sum ho02 h2;have h4:=ho02 _ h2;have h5:=htb om;omega
  refine Ah (Gr (Bc rfl rfl) (Af (Ao (A9 rfl (fun c36=>?_) (fun c36=>?_)))))
  ·refine A0 (Ai (Ao (Ax (Ah (Gr (A8 (α:=Int) (xs:=commonG nd es (at_ es (k:Int)).u (at_ es (k:Int)).v) Ab ty3 rfl rfl Br om oo) (Gr (B2 (xs:=commonG nd es (at_ es (k:Int)).u (at_ es (k:Int)).v) ty3 rfl Br om oo) (Ga rfl (Af (Ah (Gm rfl (Gm rfl (Gr (A8 (α:=Int) (xs:=out2) Ab ty3 rfl rfl Br om oo) (Gr (B2 (xs:=out2) ty3 rfl Br om oo) (Gr (Rad rfl rfl) (Gr (A8 (α:=Int) (xs:=out2) Ab ty3 rfl rfl Br om oo) (Ge0 (Cy (α:=Int) (xs:=out2) (e:=3) (new:=(at_ out2 (at_ (commonG nd es (at_ es (k:Int)).u (at_ es (k:Int)).v) (k2:Int)))+1) ty3 rfl rfl rfl om oo am) ?_))))))))))))))))
   exact Af (As (S9 4 5 6 17 18 19 33 34 35 rfl rfl rfl rfl rfl rfl rfl rfl rfl) (Aw (Gm rfl (Gr (Rad rfl rfl) (Ga rfl (Bj (Aj (Ai (Aw (Gr (Rad rfl rfl) (Gm rfl (Bj (B6 ((k2+1),(List.set out2 (at_ (commonG nd es (at_ es (k:Int)).u (at_ es (k:Int)).v) (k2:Int)).toNat ((at_ out2 (at_ (commonG nd es (at_ es (k:Int)).u (at_ es (k:Int)).v) (k2:Int)))+1)),(q2+1)) (by dsimp only;exact ⟨om,om,(by rw [List.length_set];exact hol2),(by rw [sumL_set om om,hos2];omega),(fun x hx=>by rcases List.mem_or_eq_of_mem_set hx with h|h;(· exact ho02 x h);(· rw [h];have:=hox om;omega))⟩))))))))))))))
  ·exact Bt (Ak (Ak (A6 (Aj (Ai (Aw (Gr (Rad rfl rfl) (Gm rfl (Bj (B6 ((k+1),(out2),(q2)) (by dsimp only;exact ⟨om,(by rw [triK_succ om,hq2,show k2=(commonG nd es (at_ es (k:Int)).u (at_ es (k:Int)).v).length by omega]),hol2,hos2,ho02⟩)))))))))))
 ·refine Bt (Ak (Ak (A6 (Ai (Ah (Gm rfl (Gr (Runs.quo rfl rfl om om (by unfold InR;omega)) (Gm rfl (Ga rfl (Ga rfl (Af (A2 ?_))))))))))))
  have hcl3:(List.replicate nd.toNat (default:Int)).length=out.length:=by rw [List.length_replicate,hol]
  have hqe:q=triS nd es:=by rw [hq,show k=es.length by omega,triK_all]
  exact C9 rfl rfl rfl (vc 3 (.slice ad4 out.length cp5) out::I) (by rw [←hcl3];exact FitW) ⟨ad4,cp5,out,by rw [←hcl3,hqe],rfl⟩
theorem TCount_ok{nd:Int}{va:Value}{es:List Pt}(hl:Sl κ I va es)(hG:GrOk nd es) :
    CallS Tryz.prog κ 190 [.agg #[I64 (nd),va]] I (fun r J=>r = .tuple #[I64 (triS nd es / 3),I64 0]∧I=J):=by
 refine Ce1 Tryz.func190 rfl rfl ?_
 refine Ah (Ge1 (Bb (cs:=[_,_]) rfl rfl rfl) fun b1=>Ga rfl (Ga rfl (Af (Ao (Ah (Gl2 ty48 ?_))))))
 refine Gc0 (Am call83 rfl rfl (CheckGen_ok (Bf hl))) ?_
 refine Ga rfl (Af (Ah (Gm rfl (Gr (Bv rfl rfl) (Af (A9 rfl (fun c10=>?_) (fun c10=>?_)))))))
 ·exact absurd (checkG_ok.2 hG) c10
 ·refine A0 (Ai (Ah (Gl2 ty48 ?_)))
  refine G.e (Am call244 rfl rfl (Counts_ok (nd:=nd) (Bf hl) hG)) ?_
  rintro _ _ ⟨_,_,⟨ad2,cp3,on4,rfl,rfl⟩,rfl,rfl⟩
  exact Gm rfl (Gr (Az rfl rfl) (Gr (Az rfl rfl) (Ga rfl (Ga rfl (Af (As (S1 5 rfl) (Ah (Gm rfl (Ga rfl (Ga rfl (Af (A2 (C9 rfl rfl rfl (I) A4 ⟨rfl,rfl⟩)))))))))))))
end Go.Sl
