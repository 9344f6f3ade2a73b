/- A part of the proofs of statements of this seat: contracts of functions, and the plain laws that they lean on. No conditions. -/
import Derived.Test.YtfkcohmipjhfcaaGreatDoorA14
set_option linter.unusedVariables false
set_option linter.unusedSimpArgs false
set_option linter.unusedSectionVars false
namespace Go.Sl
open Go.Proofs
set_option maxRecDepth 4000
def stepP(q:Int)(j:Nat):Pt:=if j=0 then ⟨-1, -1⟩ else if j=1 then ⟨q, -1⟩ else ⟨q,q+1⟩
theorem step_first{fs fs3:List Pt}{k2 j:Nat}{q n:Int}(h:fs3=fs.set k2 (stepP q j))(hk:k2<fs.length)(hj:j<2)(hn:n=q+(j:Int)):List.set fs3 ((k2:Int)).toNat (setP2 (at_ fs3 (k2:Int)) (j:Int) n)=fs.set k2 (stepP q (j+1)):=by
 subst h hn
 rw [Int.toNat_natCast,at_setn _ _ _ _ hk,if_pos rfl,List.set_set]
 congr 1
 rcases (show j=0∨j=1 by omega) with rfl|rfl<;>simp [setP2,stepP]
theorem first_next{nd:Int}{fs fs3:List Pt}{k2 j:Nat}(h:fs3=fs.set k2 (stepP (2*nd+3*(k2:Int)+1) j))(hj:j=2)(hk:k2<fs.length)(hfs:∀i:Nat,i<k2→at_ fs (i:Int)=stepP (2*nd+3*(i:Int)+1) 2):∀i:Nat,i<k2+1→at_ fs3 (i:Int)=stepP (2*nd+3*(i:Int)+1) 2:=fun i hi=>by
 subst h hj
 rw [at_setn _ _ _ _ hk]
 by_cases e:k2=i
 ·subst e;rw [if_pos rfl]
 ·rw [if_neg e];exact hfs i om
theorem flow_small{nd N D:Int}{es:List Pt}{f:List Int}(hN:0≤N∧N≤4096)(hD:0≤D∧D≤4096)(hf:IsFlow (denseNet nd N D es) f):∀x∈f,0≤x∧x≤4096:=fun x hx=>by
 obtain ⟨i,hi,rfl⟩:=List.getElem_of_mem hx
 have hi2:i<(denseNet nd N D es).arcs.length:=by rw [←hf.len];exact hi
 have h:=hf.cap i hi2
 rw [D3 f i hi] at h
 have hm:at_ (denseArcs nd N D es) (i:Int)∈denseArcs nd N D es:=Ck om (by have:i<(denseArcs nd N D es).length:=hi2;omega)
 have hc:(at_ (denseArcs nd N D es) (i:Int)).cap≤4096:=by
  rcases mem_denseArcs.1 hm with ⟨v,hv,h⟩|⟨j,hj,h⟩
  ·simp only [nodeArcs,List.mem_cons,List.not_mem_nil,or_false] at h
   rcases h with h|h<;>rw [h]<;>simp only<;>omega
  ·simp only [edgeArcs,List.mem_cons,List.not_mem_nil,or_false] at h
   rcases h with h|h|h<;>rw [h]<;>simp only<;>omega
 have e:(denseNet nd N D es).arcs=denseArcs nd N D es:=rfl
 rw [e] at h
 omega
theorem or_yes{B:BitVec 64}{k:Nat}{p:Int→Prop}(hk:k<64)(h:∀v:Int,v∈listB B↔(0≤v∧v<(k:Int))∧p v)(hp:p (k:Int)):∀v:Int,v∈listB (B ||| bitB (k:Int))↔(0≤v∧v<((k+1:Nat):Int))∧p v:=fun v=>by
 rw [bit_sh om om]
 rw [mem_orbit om om,h v]
 constructor
 ·rintro (⟨h1,h2⟩|h1)
  ·exact ⟨by omega,h2⟩
  ·have:v=(k:Int):=by omega
   subst this;exact ⟨by omega,hp⟩
 ·rintro ⟨h1,h2⟩
  by_cases e:v=(k:Int)
  ·right;omega
  ·left;exact ⟨by omega,h2⟩
theorem or_no{B:BitVec 64}{k:Nat}{p:Int→Prop}(h:∀v:Int,v∈listB B↔(0≤v∧v<(k:Int))∧p v)(hp:¬p (k:Int)):∀v:Int,v∈listB B↔(0≤v∧v<((k+1:Nat):Int))∧p v:=fun v=>by
 rw [h v]
 constructor
 ·rintro ⟨h1,h2⟩;exact ⟨by omega,h2⟩
 ·rintro ⟨h1,h2⟩
  by_cases e:v=(k:Int)
  ·subst e;exact absurd h2 hp
  ·exact ⟨by omega,h2⟩
theorem solve_of{nd N D:Int}{es:List Pt}(hG:GrOk nd es)(hm:es.length≤2016)(hN:0≤N∧N≤4096)(hD:0≤D∧D≤4096){f:List Int}{side:List Bool}(hB:BothP (denseNet nd N D es) f side){B:BitVec 64}{k:Nat}(hk:k=nd.toNat)
  (h:∀v:Int,v∈listB B↔(0≤v∧v<(k:Int))∧at_ side (2+v)=true):SolveP nd N D es B:=by
 obtain ⟨T,hT1,hT2⟩:=hB.great
 have hr:=hG.rng
 refine great_solve hG hm om om hB.flow hT1 fun v=>?_
 rw [h v]
 constructor
 ·rintro ⟨h1,h2⟩
  rw [hT2 (2+v) om (by show 2+v<2+nd+(es.length:Int);omega)] at h2
  exact ⟨by omega,h2⟩
 ·rintro ⟨h1,h2⟩
  refine ⟨by omega,?_⟩
  rw [hT2 (2+v) om (by show 2+v<2+nd+(es.length:Int);omega)]
  exact h2
set_option maxHeartbeats 4000000 in
theorem Solve_ok{κ:Ctx}{I:List Item}{nd:Int}{ve vw vb vk:Value}{es:List Pt}{ws bs cs:List Int}(hl:Sl κ I ve es)(hw:Sl κ I vw ws)(hb:Sl κ I vb bs)(hkc:Sl κ I vk cs)(hG:GrOk nd es)(hm:es.length≤2016)(hP:PlainP nd es ws bs cs){nu de:Int}(hN:0≤nu∧nu≤4096)(hD:1≤de∧de≤64) :
    CallS Tryz.prog κ 233 [.agg #[ve,vw,vb,vk,U64 (allB nd),U64 (0#64)],.agg #[I64 (nu),I64 (de)]] I (fun r J=>∃B a c parts,r = .agg #[U64 B,.slice a (parts:List Int).length c]∧SolveP nd nu de es B∧parts.length=es.length∧J=vc 3 (.slice a parts.length c) parts::I):=by
 have hrng:=hG.rng
 have hwl:=hP.wl
 have hbl:=hP.bl
 have hcl:=hP.cl
 have hD4:0≤de∧de≤4096:=by omega
 refine Ce2 Tryz.func233 rfl rfl ?_
 refine Ah (Ge1 (Bb (cs:=[_,_,_,_,_,_]) rfl rfl rfl) fun b1=>Ge1 (Bb (cs:=[_,_]) rfl rfl rfl) fun b2=>Ge1 (A5 ty208 rfl) fun b3=>Af (Ah (Gf fld211_3 rfl (Gl ty22 ?_))))
 refine Gr (Bz (α:=Int) (xs:=cs) Ab rfl (Bf hkc)) (Gr (Rad rfl rfl) (Gf fld211_0 rfl (Gl ty46 ?_)))
 refine Gr (Bz (α:=Pt) (xs:=es) Bh rfl (Bf hl)) (Gr (Rad rfl rfl) ?_)
 rw [show (2:Int)+((cs.length:Nat):Int)+((es.length:Nat):Int)=2+nd+((es.length:Nat):Int) by omega]
 refine Gr (Be (cells:=[_,_,_,_]) ty303 Tryz.underlying303 pl303 rfl rfl) (Ge1 (A5 ty303 rfl) fun b4=>Ge0 (Es4_4 ty303) ?_)
 refine G.fit (J:=vc 305 (.slice none 0 0) (([]:List Arc))::blk b4 [I64 (2+nd+((es.length:Nat):Int)),I64 (0),I64 (1),.slice none 0 0] 303::blk b3 [.int .u64 (0),.slice none 0 0] 208::blk b2 [I64 (nu),I64 (de)] 40::blk b1 [ve,vw,vb,vk,U64 (allB nd),U64 (0#64)] 211::I) (B3 (α:=Arc) _ _) ?_
 refine Af (As (S4 5 4 3 2 rfl rfl rfl rfl) (Ah (Gr (Dv rfl rfl) (Ga rfl (Af (Ao (Ah (Gf fld211_3 rfl (Gl ty22 ?_)))))))))
 refine Gr (Bz (α:=Int) (xs:=cs) Ab rfl (Bf hkc)) (Gm rfl (Af (Ax (Bx (σ:=Nat×(Option Addr)×Nat×(List Arc)) (fun s=>([(2,.pointer (some ⟨b1,0,none⟩)),(3,.pointer (some ⟨b2,0,none⟩)),(4,.pointer (some ⟨b3,0,none⟩)),(5,.pointer (some ⟨b4,0,none⟩)),(6,.func (.func 281) #[] #[.pointer (some ⟨b4,0,none⟩)]),(33,vk),(34,I64 (((cs.length:Nat):Int))),(35,I64 (((s.1:Nat):Int)))]:Env)) (fun s=>blk b4 [I64 (2+nd+((es.length:Nat):Int)),I64 (0),I64 (1),.slice s.2.1 s.2.2.2.length s.2.2.1] 303::vc 305 (.slice s.2.1 s.2.2.2.length s.2.2.1) (s.2.2.2)::blk b3 [.int .u64 (0),.slice none 0 0] 208::blk b2 [I64 (nu),I64 (de)] 40::blk b1 [ve,vw,vb,vk,U64 (allB nd),U64 (0#64)] 211::I) (fun s=>(s.1≤cs.length)∧(s.2.2.2=(List.range s.1).flatMap (nodeArcs nu))) (fun s=>cs.length - s.1) (0,none,0,[]) (show ((0:Nat)≤cs.length)∧(([]:List Arc)=(List.range (0:Nat)).flatMap (nodeArcs nu)) from ⟨om,rfl⟩) (Ac rfl (Ac rfl (Ac rfl (Ac rfl (Ac rfl (Ac rfl (Ac rfl (Ac Cb Bq)))))))) (show Fit κ _ (blk b4 [I64 (2+nd+((es.length:Nat):Int)),I64 (0),I64 (1),.slice (none) ([]).length (0)] 303::vc 305 (.slice (none) ([]).length (0)) (([]))::blk b3 [.int .u64 (0),.slice none 0 0] 208::blk b2 [I64 (nu),I64 (de)] 40::blk b1 [ve,vw,vb,vk,U64 (allB nd),U64 (0#64)] 211::I) from B7) ?_))))
 rintro ⟨k,a,c,ar⟩ hp
 dsimp only at hp ⊢
 obtain ⟨hkk,har⟩:=hp
 have harl:ar.length=2*k:=by rw [har,flat_len _ 2 (fun _=>rfl)];omega
 refine Ah (Gr (Bc rfl rfl) (Af (Ao (A9 rfl (fun c36=>?_) (fun c36=>?_)))))
 ·refine A0 (Ai (Ao (Ax (Ah (Gm rfl (Gr (A8 (α:=Int) (xs:=cs) Ab ty3 rfl rfl (Bf hkc) om oo) (Gr (B2 (xs:=cs) ty3 rfl (Bf hkc) om oo) ?_)))))))
  have hkn:k<nd.toNat:=by omega
  rw [hP.c1 (k:Int) om om]
  refine Ga rfl (Ga rfl (Af (As (S10 8 7 2 3 4 5 6 33 34 35 rfl rfl rfl rfl rfl rfl rfl rfl rfl rfl) (Ao (Bo mixed (Bu (blk b4 [I64 (2+nd+((es.length:Nat):Int)),I64 (0),I64 (1),.slice a ar.length c] 303::vc 305 (.slice a ar.length c) (ar)::blk b3 [.int .u64 (0),.slice none 0 0] 208::blk b2 [I64 (nu),I64 (de)] 40::blk b1 [ve,vw,vb,vk,U64 (allB nd),U64 (0#64)] 211::I) 9 (Dr 0 rfl (Ad rfl) (Dr 2 rfl (Aa fld211_4 rfl) (Dr 3 rfl (Au ty175) ?_)))))))))
  refine Dr 5 rfl (Aa fld211_5 rfl) (Dr 6 rfl (Au ty175) ?_)
  refine Ds1 1 (Se rfl (Am call237 rfl rfl (Bit_ok (k:Int))) ?_)
  rintro _ _ ⟨_,_,⟨rfl,rfl⟩,rfl,rfl⟩
  refine ⟨A4,?_⟩
  refine Dr 4 rfl (C0 (a:=bitB (k:Int)) (b:=allB nd) rfl rfl) (Dr 7 rfl (Em (a:=(bitB (k:Int)) &&& (allB nd)) (b:=0#64) rfl rfl) (Dr 8 rfl (D8 (a:=((bitB (k:Int)) &&& (allB nd)) &&& ~~~(0#64)) (b:=0#64) rfl rfl) (Dz (Ai (As (S11 48 8 7 2 3 4 5 6 33 34 35 rfl rfl rfl rfl rfl rfl rfl rfl rfl rfl rfl) (A9 rfl (fun c48=>?_) (fun c48=>?_)))))))
  ·refine Ao (Bo mixed (Bu (blk b3 [.int .u64 (0),.slice none 0 0] 208::blk b2 [I64 (nu),I64 (de)] 40::blk b1 [ve,vw,vb,vk,U64 (allB nd),U64 (0#64)] 211::I) 12 (Dr 0 rfl (Ad rfl) (Dr 1 rfl (Ad rfl) (Dr 2 rfl (Rad rfl rfl) (Dr 3 rfl (Aa fld211_2 rfl) (Dr 4 rfl (Au ty22) ?_)))))))
   refine Dr 5 rfl (Ad rfl) (Dr 6 rfl (A8 (α:=Int) (xs:=bs) Ab ty3 rfl rfl (Bf hb) om oo) (Dr 7 rfl (B2 (xs:=bs) ty3 rfl (Bf hb) om oo) ?_))
   rw [hP.b0 (k:Int) om om]
   refine Dr 8 rfl (Aa fld40_1 rfl) (Dr 9 rfl (Au ty3) ?_)
   refine Dr 10 rfl (E7 rfl rfl (by unfold InR;omega)) ?_
   rw [Int.zero_mul]
   refine Ds1 11 (Sc2 rfl (Cr call281 rfl rfl rfl (Cn (J:=blk b4 [I64 (2+nd+((es.length:Nat):Int)),I64 (0),I64 (1),.slice a ar.length c] 303::vc 305 (.slice a ar.length c) (ar)::blk b3 [.int .u64 (0),.slice none 0 0] 208::blk b2 [I64 (nu),I64 (de)] 40::blk b1 [ve,vw,vb,vk,U64 (allB nd),U64 (0#64)] 211::I) B7 (Arc_ok 0 (2+(k:Int)) 0 olp))) fun ad5 cp6=>?_)
   refine Dz (Ai (As (S10 8 7 2 3 4 5 6 33 34 35 rfl rfl rfl rfl rfl rfl rfl rfl rfl rfl) (Aw (Gm rfl (Gm rfl (Gr (Rad rfl rfl) (Gm rfl (Gf fld40_0 rfl (Gl ty3 ?_)))))))))
   refine Gr (E7 rfl rfl (by unfold InR;omega)) ?_
   rw [Int.one_mul]
   refine Gc2 (Cr call281 rfl rfl rfl (Cn (J:=blk b4 [I64 (2+nd+((es.length:Nat):Int)),I64 (0),I64 (1),.slice ad5 (ar++[(⟨0,2+(k:Int),0⟩:Arc)]).length cp6] 303::vc 305 (.slice ad5 (ar++[(⟨0,2+(k:Int),0⟩:Arc)]).length cp6) (ar++[(⟨0,2+(k:Int),0⟩:Arc)])::blk b3 [.int .u64 (0),.slice none 0 0] 208::blk b2 [I64 (nu),I64 (de)] 40::blk b1 [ve,vw,vb,vk,U64 (allB nd),U64 (0#64)] 211::I) B7 (Arc_ok (2+(k:Int)) 1 nu olp))) fun ad7 cp8=>?_
   exact Bj (Aj (Ai (As (S8 2 3 4 5 6 33 34 35 rfl rfl rfl rfl rfl rfl rfl rfl) (Aw (Gr (Rad rfl rfl) (Gm rfl (Bj (B6 ((k+1),(ad7),(cp8),((ar++[(⟨0,2+(k:Int),0⟩:Arc)])++[(⟨2+(k:Int),1,nu⟩:Arc)])) (by dsimp only;exact ⟨om,(by rw [flat_succ,←har,List.append_assoc];rfl)⟩)))))))))
  ·exact absurd (bit_all (u:=(k:Int)) om om om) c48
 ·refine Bt (Ak (Ak (A6 (Ai (Ah (Gf fld211_0 rfl (Gl ty46 ?_)))))))
  refine Gr (Bz (α:=Pt) (xs:=es) Bh rfl (Bf hl)) (Ge2 (Cp (α:=Pt) (n:=es.length) Ex ty64 rfl rfl rfl om om dc rfl) fun ad9 cp10=>?_)
  refine Ga rfl (Af (As (S6 9 2 3 4 5 6 rfl rfl rfl rfl rfl rfl) (Ao (Ah (Gf fld211_0 rfl (Gl ty46 ?_))))))
  refine Gr (Bz (α:=Pt) (xs:=es) Bh rfl (Bf hl)) (Gm rfl (Af (Ax (Bx (σ:=Nat×(Option Addr)×Nat×(List Arc)×(List Pt)) (fun s=>([(2,.pointer (some ⟨b1,0,none⟩)),(3,.pointer (some ⟨b2,0,none⟩)),(4,.pointer (some ⟨b3,0,none⟩)),(5,.pointer (some ⟨b4,0,none⟩)),(6,.func (.func 281) #[] #[.pointer (some ⟨b4,0,none⟩)]),(9,.slice ad9 (List.replicate es.length (default:Pt)).length cp10),(75,ve),(76,I64 (((es.length:Nat):Int))),(77,I64 (((s.1:Nat):Int)))]:Env)) (fun s=>blk b4 [I64 (2+nd+((es.length:Nat):Int)),I64 (0),I64 (1),.slice s.2.1 s.2.2.2.1.length s.2.2.1] 303::vc 305 (.slice s.2.1 s.2.2.2.1.length s.2.2.1) (s.2.2.2.1)::vc 64 (.slice ad9 (List.replicate es.length (default:Pt)).length cp10) (s.2.2.2.2)::blk b3 [.int .u64 (0),.slice none 0 0] 208::blk b2 [I64 (nu),I64 (de)] 40::blk b1 [ve,vw,vb,vk,U64 (allB nd),U64 (0#64)] 211::I) (fun s=>(s.1≤es.length)∧(s.2.2.2.1=ar++(List.range s.1).flatMap (edgeArcs nd de es))∧(s.2.2.2.2.length=es.length)∧(∀i:Nat,i<s.1→at_ s.2.2.2.2 (i:Int)=stepP (2*nd+3*(i:Int)+1) 2)) (fun s=>es.length - s.1) (0,a,c,ar,List.replicate es.length (default:Pt)) (show ((0:Nat)≤es.length)∧((ar:List Arc)=ar++(List.range (0:Nat)).flatMap (edgeArcs nd de es))∧((List.replicate es.length (default:Pt):List Pt).length=es.length)∧(∀i:Nat,i<(0:Nat)→at_ (List.replicate es.length (default:Pt):List Pt) (i:Int)=stepP (2*nd+3*(i:Int)+1) 2) from ⟨om,(by simp),List.length_replicate,(fun i h=>by omega)⟩) (Ac rfl (Ac rfl (Ac rfl (Ac rfl (Ac rfl (Ac rfl (Ac rfl (Ac rfl (Ac Cb Bq))))))))) (show Fit κ _ (blk b4 [I64 (2+nd+((es.length:Nat):Int)),I64 (0),I64 (1),.slice (a) (ar).length (c)] 303::vc 305 (.slice (a) (ar).length (c)) ((ar))::vc 64 (.slice ad9 (List.replicate es.length (default:Pt)).length cp10) ((List.replicate es.length (default:Pt)))::blk b3 [.int .u64 (0),.slice none 0 0] 208::blk b2 [I64 (nu),I64 (de)] 40::blk b1 [ve,vw,vb,vk,U64 (allB nd),U64 (0#64)] 211::I) from B7) ?_))))
  rintro ⟨k2,a2,c2,ar2,fs⟩ hp
  dsimp only at hp ⊢
  obtain ⟨hk2,har2,hfl,hfs⟩:=hp
  have har2l:ar2.length=2*k+3*k2:=by rw [har2,List.length_append,harl,flat_len _ 3 (fun _=>rfl)];omega
  refine Ah (Gr (Bc rfl rfl) (Af (Ao (A9 rfl (fun c78=>?_) (fun c78=>?_)))))
  ·refine A0 (Ai (Ao (Ax (Ah (Gm rfl (Gr (A8 (α:=Pt) (xs:=es) Bh ty135 rfl rfl (Bf hl) om oo) (Gr (B0 (α:=Pt) (xs:=es) ty135 rfl (Bf hl) om oo) ?_)))))))
   have hed:=hG.edge (at_ es (k2:Int)) (Ck om om)
   refine Ge1 (A5 ty135 rfl) fun b11=>Ga rfl (Ge0 (B1 ty135) ?_)
   refine Af (As (S11 10 11 2 3 4 5 6 9 75 76 77 rfl rfl rfl rfl rfl rfl rfl rfl rfl rfl rfl) (Ah (Gf fld211_3 rfl (Gl ty22 ?_))))
   refine Gr (Bz (α:=Int) (xs:=cs) Ab rfl (Bf hkc)) (Gr (Rad rfl rfl) (Gm rfl (Gr (Rad rfl rfl) ?_)))
   rw [show (2:Int)+((cs.length:Nat):Int)+(k2:Int)=2+nd+(k2:Int) by omega]
   refine Ga rfl (Af (As (S12 12 10 11 2 3 4 5 6 9 75 76 77 rfl rfl rfl rfl rfl rfl rfl rfl rfl rfl rfl rfl) (Ao (Bo mixed (Bu (blk b11 [I64 ((at_ es (k2:Int)).u),I64 ((at_ es (k2:Int)).v)] 135::blk b4 [I64 (2+nd+((es.length:Nat):Int)),I64 (0),I64 (1),.slice a2 ar2.length c2] 303::vc 305 (.slice a2 ar2.length c2) (ar2)::vc 64 (.slice ad9 (List.replicate es.length (default:Pt)).length cp10) (fs)::blk b3 [.int .u64 (0),.slice none 0 0] 208::blk b2 [I64 (nu),I64 (de)] 40::blk b1 [ve,vw,vb,vk,U64 (allB nd),U64 (0#64)] 211::I) 9 (Dr 0 rfl (Aa fld211_1 rfl) (Dr 1 rfl (Au ty22) ?_)))))))
   refine Dr 2 rfl (Ad rfl) (Dr 3 rfl (A8 (α:=Int) (xs:=ws) Ab ty3 rfl rfl (Bf hw) om oo) (Dr 4 rfl (B2 (xs:=ws) ty3 rfl (Bf hw) om oo) ?_))
   rw [hP.w1 k2 om]
   refine Dr 5 rfl (Aa fld40_1 rfl) (Dr 6 rfl (Au ty3) ?_)
   refine Dr 7 rfl (E7 rfl rfl (by unfold InR;omega)) ?_
   rw [Int.one_mul]
   refine Dr 8 rfl (Bd rfl) (Dz (Ai (As (S13 13 12 10 11 2 3 4 5 6 9 75 76 77 rfl rfl rfl rfl rfl rfl rfl rfl rfl rfl rfl rfl rfl) (Ah (Gm rfl (Gm rfl (Gm rfl (Gc2 (Cr call281 rfl rfl rfl (Cn (J:=blk b4 [I64 (2+nd+((es.length:Nat):Int)),I64 (0),I64 (1),.slice a2 ar2.length c2] 303::vc 305 (.slice a2 ar2.length c2) (ar2)::blk b11 [I64 ((at_ es (k2:Int)).u),I64 ((at_ es (k2:Int)).v)] 135::vc 64 (.slice ad9 (List.replicate es.length (default:Pt)).length cp10) (fs)::blk b3 [.int .u64 (0),.slice none 0 0] 208::blk b2 [I64 (nu),I64 (de)] 40::blk b1 [ve,vw,vb,vk,U64 (allB nd),U64 (0#64)] 211::I) B7 (Arc_ok 0 (2+nd+(k2:Int)) de olp))) fun ad12 cp13=>?_))))))))
   refine Af (As (S13 13 12 10 11 2 3 4 5 6 9 75 76 77 rfl rfl rfl rfl rfl rfl rfl rfl rfl rfl rfl rfl rfl) (Ah (Gm rfl (Gm rfl (Gr (Runs.buildArr (cells:=[_,_]) ty64 Co ty3 rfl rfl) (Gr (A8 (α:=Pt) (xs:=fs) Ex ty64 rfl rfl Br om oo) (Ge0 (Cy (α:=Pt) (xs:=fs) (e:=64) (new:=⟨-1, -1⟩) ty64 rfl rfl rfl om oo am) ?_)))))))
   refine Af (As (S13 13 12 10 11 2 3 4 5 6 9 75 76 77 rfl rfl rfl rfl rfl rfl rfl rfl rfl rfl rfl rfl rfl) (Ah (Gf fld135_0 rfl (Gl ty3 ?_))))
   refine Gf fld135_1 rfl (Gl ty3 ?_)
   refine Gr (Runs.buildArr (cells:=[_,_]) ty64 Co ty3 rfl rfl) (Gm rfl (Af (As (S14 109 108 13 12 10 2 3 4 5 6 9 75 76 77 rfl rfl rfl rfl rfl rfl rfl rfl rfl rfl rfl rfl rfl rfl) (Ax (Bx (σ:=Nat×(Option Addr)×Nat×(List Arc)×(List Pt)) (fun s=>([(2,.pointer (some ⟨b1,0,none⟩)),(3,.pointer (some ⟨b2,0,none⟩)),(4,.pointer (some ⟨b3,0,none⟩)),(5,.pointer (some ⟨b4,0,none⟩)),(6,.func (.func 281) #[] #[.pointer (some ⟨b4,0,none⟩)]),(9,.slice ad9 (List.replicate es.length (default:Pt)).length cp10),(10,I64 ((k2:Int))),(12,I64 (2+nd+(k2:Int))),(13,I64 (de)),(75,ve),(76,I64 (((es.length:Nat):Int))),(77,I64 ((k2:Int))),(108,.agg #[I64 ((at_ es (k2:Int)).u),I64 ((at_ es (k2:Int)).v)]),(109,I64 (((s.1:Nat):Int)))]:Env)) (fun s=>blk b4 [I64 (2+nd+((es.length:Nat):Int)),I64 (0),I64 (1),.slice s.2.1 s.2.2.2.1.length s.2.2.1] 303::vc 305 (.slice s.2.1 s.2.2.2.1.length s.2.2.1) (s.2.2.2.1)::blk b11 [I64 ((at_ es (k2:Int)).u),I64 ((at_ es (k2:Int)).v)] 135::vc 64 (.slice ad9 (List.replicate es.length (default:Pt)).length cp10) (s.2.2.2.2)::blk b3 [.int .u64 (0),.slice none 0 0] 208::blk b2 [I64 (nu),I64 (de)] 40::blk b1 [ve,vw,vb,vk,U64 (allB nd),U64 (0#64)] 211::I) (fun s=>(s.1≤2)∧(s.2.2.2.1=ar2++(edgeArcs nd de es k2).take (1+s.1))∧(s.2.2.2.2=fs.set k2 (stepP (2*nd+3*(k2:Int)+1) s.1))) (fun s=>2 - s.1) (0,ad12,cp13,ar2++[(⟨0,2+nd+(k2:Int),de⟩:Arc)],List.set fs ((k2:Int)).toNat (⟨-1, -1⟩)) (show ((0:Nat)≤2)∧((ar2++[(⟨0,2+nd+(k2:Int),de⟩:Arc)]:List Arc)=ar2++(edgeArcs nd de es k2).take (1+(0:Nat)))∧((List.set fs ((k2:Int)).toNat (⟨-1, -1⟩):List Pt)=fs.set k2 (stepP (2*nd+3*(k2:Int)+1) (0:Nat))) from ⟨om,rfl,(by rw [Int.toNat_natCast];rfl)⟩) (Ac rfl (Ac rfl (Ac rfl (Ac rfl (Ac rfl (Ac rfl (Ac rfl (Ac rfl (Ac rfl (Ac rfl (Ac rfl (Ac rfl (Ac rfl (Ac Cb Bq)))))))))))))) (show Fit κ _ (blk b4 [I64 (2+nd+((es.length:Nat):Int)),I64 (0),I64 (1),.slice (ad12) (ar2++[(⟨0,2+nd+(k2:Int),de⟩:Arc)]).length (cp13)] 303::vc 305 (.slice (ad12) (ar2++[(⟨0,2+nd+(k2:Int),de⟩:Arc)]).length (cp13)) ((ar2++[(⟨0,2+nd+(k2:Int),de⟩:Arc)]))::blk b11 [I64 ((at_ es (k2:Int)).u),I64 ((at_ es (k2:Int)).v)] 135::vc 64 (.slice ad9 (List.replicate es.length (default:Pt)).length cp10) ((List.set fs ((k2:Int)).toNat (⟨-1, -1⟩)))::blk b3 [.int .u64 (0),.slice none 0 0] 208::blk b2 [I64 (nu),I64 (de)] 40::blk b1 [ve,vw,vb,vk,U64 (allB nd),U64 (0#64)] 211::I) from B7) ?_)))))
   rintro ⟨j,a3,c3,ar3,fs3⟩ hp
   dsimp only at hp ⊢
   obtain ⟨hj,har3,hfs3⟩:=hp
   refine W.pull (p:=0<fs3.length→ad9≠none) (vc.isSome mm) fun hsf=>?_
   have har3l:ar3.length=2*k+3*k2+1+j:=by rw [har3,List.length_append,List.length_take,har2l];show 2*k+3*k2+min (1+j) 3=_;omega
   have hf3l:fs3.length=es.length:=by rw [hfs3,List.length_set];exact hfl
   refine Ah (Gr (Bc rfl rfl) (Af (As (S15 110 2 3 4 5 6 9 10 12 13 75 76 77 108 109 rfl rfl rfl rfl rfl rfl rfl rfl rfl rfl rfl rfl rfl rfl rfl) (Ao (A9 rfl (fun c110=>?_) (fun c110=>?_))))))
   ·refine A0 (Ai (As (S14 2 3 4 5 6 9 10 12 13 75 76 77 108 109 rfl rfl rfl rfl rfl rfl rfl rfl rfl rfl rfl rfl rfl rfl) (Ao (Ax (Ah (Gm rfl (Gr (Runs.index2 (ix2a _ _) (ix2b _ _) rfl rfl om) (Ga rfl (Ga rfl (Af (As (S16 15 14 2 3 4 5 6 9 10 12 13 75 76 77 108 109 rfl rfl rfl rfl rfl rfl rfl rfl rfl rfl rfl rfl rfl rfl rfl rfl) (Ao (Bo mixed (Bu (blk b4 [I64 (2+nd+((es.length:Nat):Int)),I64 (0),I64 (1),.slice a3 ar3.length c3] 303::vc 305 (.slice a3 ar3.length c3) (ar3)::blk b11 [I64 ((at_ es (k2:Int)).u),I64 ((at_ es (k2:Int)).v)] 135::vc 64 (.slice ad9 (List.replicate es.length (default:Pt)).length cp10) (fs3)::blk b3 [.int .u64 (0),.slice none 0 0] 208::blk b2 [I64 (nu),I64 (de)] 40::blk b1 [ve,vw,vb,vk,U64 (allB nd),U64 (0#64)] 211::I) 6 (Dr 0 rfl (Ad rfl) (Dr 2 rfl (Aa fld211_5 rfl) (Dr 3 rfl (Au ty175) ?_)))))))))))))))))
    refine Ds1 1 (Se rfl (Am call237 rfl rfl (Bit_ok (if (j:Int)=0 then (at_ es (k2:Int)).u else (at_ es (k2:Int)).v))) ?_)
    rintro _ _ ⟨_,_,⟨rfl,rfl⟩,rfl,rfl⟩
    refine ⟨A4,?_⟩
    refine Dr 4 rfl (C0 (a:=bitB (if (j:Int)=0 then (at_ es (k2:Int)).u else (at_ es (k2:Int)).v)) (b:=0#64) rfl rfl) (Dr 5 rfl (Runs.eqB (a:=(bitB (if (j:Int)=0 then (at_ es (k2:Int)).u else (at_ es (k2:Int)).v)) &&& (0#64)) (b:=0#64) rfl rfl) (Dz (Ai (As (S17 118 15 14 2 3 4 5 6 9 10 12 13 75 76 77 108 109 rfl rfl rfl rfl rfl rfl rfl rfl rfl rfl rfl rfl rfl rfl rfl rfl rfl) (A9 rfl (fun c118=>?_) (fun c118=>?_))))))
    ·refine Bo mixed (Bu (blk b11 [I64 ((at_ es (k2:Int)).u),I64 ((at_ es (k2:Int)).v)] 135::blk b3 [.int .u64 (0),.slice none 0 0] 208::blk b2 [I64 (nu),I64 (de)] 40::blk b1 [ve,vw,vb,vk,U64 (allB nd),U64 (0#64)] 211::I) 12 (Dr 0 rfl (Ad rfl) (Dr 1 rfl (Ad rfl) (Dr 2 rfl (Ad rfl) (Dr 3 rfl (Ad rfl) (Dr 4 rfl (Ad rfl) (Dr 5 rfl (Ad rfl) (Dr 6 rfl (Rad rfl rfl) (Dr 7 rfl (Ad rfl) (Dr 9 rfl (Runs.idxsV Pt Ex ty64 rfl rfl (hsf om) om (by simp only [List.length_replicate];omega)) (Ds1 8 (Sc2 rfl (Cr call281 rfl rfl rfl (Cn (J:=blk b4 [I64 (2+nd+((es.length:Nat):Int)),I64 (0),I64 (1),.slice a3 ar3.length c3] 303::vc 305 (.slice a3 ar3.length c3) (ar3)::blk b11 [I64 ((at_ es (k2:Int)).u),I64 ((at_ es (k2:Int)).v)] 135::vc 64 (.slice ad9 (List.replicate es.length (default:Pt)).length cp10) (fs3)::blk b3 [.int .u64 (0),.slice none 0 0] 208::blk b2 [I64 (nu),I64 (de)] 40::blk b1 [ve,vw,vb,vk,U64 (allB nd),U64 (0#64)] 211::I) B7 (Arc_ok (2+nd+(k2:Int)) (2+(if (j:Int)=0 then (at_ es (k2:Int)).u else (at_ es (k2:Int)).v)) de olp))) fun ad14 cp15=>?_))))))))))))
     refine Dr 10 rfl (Runs.idxElF Co ty3 rfl rfl (hsf om) om om) (Ds1 11 (Se0 rfl (Eff.setP2 (xs:=fs3) (i:=(k2:Int)) (j:=(j:Int)) (n:=((ar3.length:Nat):Int)) (e:=64) ty3 rfl rfl om om om am) ?_))
     exact Dz (Aj (Ai (As (S14 2 3 4 5 6 9 10 12 13 75 76 77 108 109 rfl rfl rfl rfl rfl rfl rfl rfl rfl rfl rfl rfl rfl rfl) (Aw (Gr (Rad rfl rfl) (Gm rfl (Bj (B6 ((j+1),(ad14),(cp15),(ar3++[(⟨2+nd+(k2:Int),2+(if (j:Int)=0 then (at_ es (k2:Int)).u else (at_ es (k2:Int)).v),de⟩:Arc)]),(List.set fs3 ((k2:Int)).toNat (setP2 (at_ fs3 (k2:Int)) (j:Int) ((ar3.length:Nat):Int)))) (by dsimp only;exact ⟨om,(by rcases (show j=0∨j=1 by omega) with e|e<;>subst e<;>rw [har3,List.append_assoc]<;>simp [edgeArcs]),(step_first hfs3 om om om)⟩)))))))))
    ·exact absurd BitVec.and_zero c118
   ·exact Bt (Ak (Ak (A6 (Aj (Ai (As (S9 2 3 4 5 6 9 75 76 77 rfl rfl rfl rfl rfl rfl rfl rfl rfl) (Aw (Gr (Rad rfl rfl) (Gm rfl (Bj (B6 ((k2+1),(a3),(c3),(ar3),(fs3)) (by dsimp only;exact ⟨om,(by rw [har3,har2,flat_succ,List.append_assoc,List.take_of_length_le (show (edgeArcs nd de es k2).length≤1+j by show 3≤1+j;omega)]),hf3l,(first_next hfs3 om om hfs)⟩))))))))))))
  ·refine Bt (Ak (Ak (A6 (Ai (Ah (Gl4 ty303 ?_))))))
   have hall:ar2=denseArcs nd nu de es:=by rw [har2,har,show k=nd.toNat by omega,show k2=es.length by omega];rfl
   rw [hall]
   have hdl:=denseArcs_len nd nu de es
   refine G.e (Am call282 rfl rfl (Both_ok (n:=denseNet nd nu de es) Br (denseNet_ok hG hm om om))) ?_
   rintro _ _ ⟨_,_,⟨ad16,cp17,fl,ad18,cp19,side,val,rfl,hB,rfl⟩,rfl,rfl⟩
   have hsl:((side.length:Nat):Int)=2+nd+((es.length:Nat):Int):=hB.len
   have hfl2:fl.length=nd.toNat*2+es.length*3:=hB.flow.len.trans hdl
   refine Gm rfl (Gr (Az rfl rfl) (Gr (Az rfl rfl) (Gr (Az rfl rfl) (Ga rfl (Ga rfl (Ga rfl (Af (As (S6 18 16 2 3 4 9 rfl rfl rfl rfl rfl rfl) (Ah (Gf fld211_5 rfl (Gl ty175 ?_)))))))))))
   refine Gr (Be (cells:=[_,_]) ty208 Tryz.underlying208 pl208 rfl rfl) (Ge1 (A5 ty208 rfl) fun b20=>Ge0 (B1 ty208) ?_)
   refine Af (Ao (Ah (Gf fld211_3 rfl (Gl ty22 ?_))))
   refine Gr (Bz (α:=Int) (xs:=cs) Ab rfl (Bf hkc)) (Gm rfl (Af (As (S9 144 143 19 18 16 2 3 4 9 rfl rfl rfl rfl rfl rfl rfl rfl rfl) (Ax (Bx (σ:=Nat×(BitVec 64)) (fun s=>([(2,.pointer (some ⟨b1,0,none⟩)),(3,.pointer (some ⟨b2,0,none⟩)),(4,.pointer (some ⟨b3,0,none⟩)),(9,.slice ad9 (List.replicate es.length (default:Pt)).length cp10),(16,.slice ad16 fl.length cp17),(18,.slice ad18 side.length cp19),(19,.pointer (some ⟨b20,0,none⟩)),(143,I64 (((cs.length:Nat):Int))),(144,I64 (((s.1:Nat):Int)))]:Env)) (fun s=>blk b20 [U64 (s.2),.slice none 0 0] 208::vc 4 (.slice ad18 side.length cp19) (side)::vc 3 (.slice ad16 fl.length cp17) (fl)::blk b4 [I64 (2+nd+((es.length:Nat):Int)),I64 (0),I64 (1),.slice a2 (denseArcs nd nu de es).length c2] 303::vc 305 (.slice a2 (denseArcs nd nu de es).length c2) ((denseArcs nd nu de es))::vc 64 (.slice ad9 (List.replicate es.length (default:Pt)).length cp10) (fs)::blk b3 [.int .u64 (0),.slice none 0 0] 208::blk b2 [I64 (nu),I64 (de)] 40::blk b1 [ve,vw,vb,vk,U64 (allB nd),U64 (0#64)] 211::I) (fun s=>(s.1≤cs.length)∧(∀v:Int,v∈listB s.2↔(0≤v∧v<((s.1:Nat):Int))∧at_ side (2+v)=true)) (fun s=>cs.length - s.1) (0,0#64) (show ((0:Nat)≤cs.length)∧(∀v:Int,v∈listB (0#64:BitVec 64)↔(0≤v∧v<(((0:Nat):Nat):Int))∧at_ side (2+v)=true) from ⟨om,(fun v=>by rw [C8];constructor;(· intro h;cases h);(· rintro ⟨h,_⟩;omega))⟩) (Ac rfl (Ac rfl (Ac rfl (Ac rfl (Ac rfl (Ac rfl (Ac rfl (Ac rfl (Ac Cb Bq))))))))) (show Fit κ _ (blk b20 [U64 ((0#64)),.slice none 0 0] 208::vc 4 (.slice ad18 side.length cp19) (side)::vc 3 (.slice ad16 fl.length cp17) (fl)::blk b4 [I64 (2+nd+((es.length:Nat):Int)),I64 (0),I64 (1),.slice a2 (denseArcs nd nu de es).length c2] 303::vc 305 (.slice a2 (denseArcs nd nu de es).length c2) ((denseArcs nd nu de es))::vc 64 (.slice ad9 (List.replicate es.length (default:Pt)).length cp10) (fs)::blk b3 [.int .u64 (0),.slice none 0 0] 208::blk b2 [I64 (nu),I64 (de)] 40::blk b1 [ve,vw,vb,vk,U64 (allB nd),U64 (0#64)] 211::I) from Ay) ?_)))))
   rintro ⟨k3,B⟩ hp
   dsimp only at hp ⊢
   obtain ⟨hk3,hB6⟩:=hp
   refine Ah (Gr (Bc rfl rfl) (Af (Ao (A9 rfl (fun c145=>?_) (fun c145=>?_)))))
   ·refine A0 (Ai (Ao (Ax (Ah (Gm rfl (Ga rfl (Af (Ao (Bo mixed (Bu (blk b20 [U64 (B),.slice none 0 0] 208::vc 4 (.slice ad18 side.length cp19) (side)::vc 3 (.slice ad16 fl.length cp17) (fl)::blk b4 [I64 (2+nd+((es.length:Nat):Int)),I64 (0),I64 (1),.slice a2 (denseArcs nd nu de es).length c2] 303::vc 305 (.slice a2 (denseArcs nd nu de es).length c2) ((denseArcs nd nu de es))::vc 64 (.slice ad9 (List.replicate es.length (default:Pt)).length cp10) (fs)::blk b3 [.int .u64 (0),.slice none 0 0] 208::blk b2 [I64 (nu),I64 (de)] 40::blk b1 [ve,vw,vb,vk,U64 (allB nd),U64 (0#64)] 211::I) 16 (Dr 0 rfl (Ad rfl) (Dr 2 rfl (Aa fld211_4 rfl) (Dr 3 rfl (Au ty175) ?_)))))))))))))
    refine Dr 5 rfl (Aa fld211_5 rfl) (Dr 6 rfl (Au ty175) ?_)
    refine Ds1 1 (Se rfl (Am call237 rfl rfl (Bit_ok (k3:Int))) ?_)
    rintro _ _ ⟨_,_,⟨rfl,rfl⟩,rfl,rfl⟩
    refine ⟨A4,?_⟩
    refine Dr 4 rfl (C0 (a:=bitB (k3:Int)) (b:=allB nd) rfl rfl) (Dr 7 rfl (Em (a:=(bitB (k3:Int)) &&& (allB nd)) (b:=0#64) rfl rfl) (Dr 8 rfl (D8 (a:=((bitB (k3:Int)) &&& (allB nd)) &&& ~~~(0#64)) (b:=0#64) rfl rfl) (Dr 9 rfl (Ad rfl) (D1 (d:=156) rfl (fun g156=>?_) (fun g156=>?_)))))
    ·refine Dro 10 rfl (Ad rfl) (Dro 11 rfl (Ad rfl) (Dro 12 rfl (Rad rfl rfl) (Dro 13 rfl (A8 (α:=Bool) (xs:=side) C6 ty4 rfl rfl Br om oo) (Dro 14 rfl (Runs.getB (xs:=side) ty4 rfl Br om oo) (Dr 15 rfl (Ap rfl rfl) (Dz (Ai (As (S11 162 20 2 3 4 9 16 18 19 143 144 rfl rfl rfl rfl rfl rfl rfl rfl rfl rfl rfl) (W.cond rfl (fun c162=>?_) (fun c162=>?_))))))))))
     ·refine Bo mixed (Bu (blk b20 [U64 (B),.slice none 0 0] 208::vc 4 (.slice ad18 side.length cp19) (side)::vc 3 (.slice ad16 fl.length cp17) (fl)::blk b4 [I64 (2+nd+((es.length:Nat):Int)),I64 (0),I64 (1),.slice a2 (denseArcs nd nu de es).length c2] 303::vc 305 (.slice a2 (denseArcs nd nu de es).length c2) ((denseArcs nd nu de es))::vc 64 (.slice ad9 (List.replicate es.length (default:Pt)).length cp10) (fs)::blk b3 [.int .u64 (0),.slice none 0 0] 208::blk b2 [I64 (nu),I64 (de)] 40::blk b1 [ve,vw,vb,vk,U64 (allB nd),U64 (0#64)] 211::I) 6 (Dr 0 rfl (Aa fld208_0 rfl) (Dr 1 rfl (Au ty175) ?_)))
      refine Dr 2 rfl (Ad rfl) (Ds1 3 (Se rfl (Am call237 rfl rfl (Bit_ok (k3:Int))) ?_))
      rintro _ _ ⟨_,_,⟨rfl,rfl⟩,rfl,rfl⟩
      refine ⟨A4,?_⟩
      refine Dr 4 rfl (Runs.orB (a:=B) (b:=bitB (k3:Int)) rfl rfl) (Dr 5 rfl (Aa fld208_0 rfl) (C4 kr ?_))
      refine Ae 6 rfl (Ek ty175) ?_
      rintro _ _ ⟨rfl,rfl⟩
      refine C5 kr ?_
      exact Aj (Ai (As (S9 2 3 4 9 16 18 19 143 144 rfl rfl rfl rfl rfl rfl rfl rfl rfl) (Aw (Gr (Rad rfl rfl) (Gm rfl (Bj (B6 ((k3+1),(B ||| (bitB (k3:Int)))) (by dsimp only;exact ⟨om,(by first|exact or_yes (p:=fun v=>at_ side (2+v)=true) om hB6 c162|exact or_no (p:=fun v=>at_ side (2+v)=true) hB6 (by rw [c162];simp))⟩))))))))
     ·exact A0 (Aj (Ai (Aw (Gr (Rad rfl rfl) (Gm rfl (Bj (B6 ((k3+1),(B)) (by dsimp only;exact ⟨om,(by first|exact or_yes (p:=fun v=>at_ side (2+v)=true) om hB6 c162|exact or_no (p:=fun v=>at_ side (2+v)=true) hB6 (by rw [c162];simp))⟩))))))))
    ·exact absurd (bit_all (u:=(k3:Int)) om om om) g156
   ·refine Bt (Ak (Ak (A6 (Ai (Ao (Ah (Gf fld211_0 rfl (Gl ty46 ?_))))))))
    refine Gr (Bz (α:=Pt) (xs:=es) Bh rfl (Bf hl)) (Gm rfl (Af (As (S8 173 172 2 3 4 9 16 19 rfl rfl rfl rfl rfl rfl rfl rfl) (Ax (Bx (σ:=Nat×(Option Addr)×Nat×(List Int)) (fun s=>([(2,.pointer (some ⟨b1,0,none⟩)),(3,.pointer (some ⟨b2,0,none⟩)),(4,.pointer (some ⟨b3,0,none⟩)),(9,.slice ad9 (List.replicate es.length (default:Pt)).length cp10),(16,.slice ad16 fl.length cp17),(19,.pointer (some ⟨b20,0,none⟩)),(172,I64 (((es.length:Nat):Int))),(173,I64 (((s.1:Nat):Int)))]:Env)) (fun s=>vc 3 (.slice s.2.1 s.2.2.2.length s.2.2.1) (s.2.2.2)::blk b20 [U64 (B),.slice s.2.1 s.2.2.2.length s.2.2.1] 208::vc 4 (.slice ad18 side.length cp19) (side)::vc 3 (.slice ad16 fl.length cp17) (fl)::blk b4 [I64 (2+nd+((es.length:Nat):Int)),I64 (0),I64 (1),.slice a2 (denseArcs nd nu de es).length c2] 303::vc 305 (.slice a2 (denseArcs nd nu de es).length c2) ((denseArcs nd nu de es))::vc 64 (.slice ad9 (List.replicate es.length (default:Pt)).length cp10) (fs)::blk b3 [.int .u64 (0),.slice none 0 0] 208::blk b2 [I64 (nu),I64 (de)] 40::blk b1 [ve,vw,vb,vk,U64 (allB nd),U64 (0#64)] 211::I) (fun s=>(s.1≤es.length)∧(s.2.2.2.length=s.1)) (fun s=>es.length - s.1) (0,none,0,[]) (show ((0:Nat)≤es.length)∧(([]:List Int).length=(0:Nat)) from ⟨om,rfl⟩) (Ac rfl (Ac rfl (Ac rfl (Ac rfl (Ac rfl (Ac rfl (Ac rfl (Ac Cb Bq)))))))) (show Fit κ _ (vc 3 (.slice (none) ([]).length (0)) (([]))::blk b20 [U64 (B),.slice (none) ([]).length (0)] 208::vc 4 (.slice ad18 side.length cp19) (side)::vc 3 (.slice ad16 fl.length cp17) (fl)::blk b4 [I64 (2+nd+((es.length:Nat):Int)),I64 (0),I64 (1),.slice a2 (denseArcs nd nu de es).length c2] 303::vc 305 (.slice a2 (denseArcs nd nu de es).length c2) ((denseArcs nd nu de es))::vc 64 (.slice ad9 (List.replicate es.length (default:Pt)).length cp10) (fs)::blk b3 [.int .u64 (0),.slice none 0 0] 208::blk b2 [I64 (nu),I64 (de)] 40::blk b1 [ve,vw,vb,vk,U64 (allB nd),U64 (0#64)] 211::I) from (B3 _ _)) ?_)))))
    rintro ⟨k4,pa,pc,parts⟩ hp
    dsimp only at hp ⊢
    obtain ⟨hk4,hpl⟩:=hp
    have hfu:k4<es.length→(at_ fs (k4:Int)).u<fl.length∧(at_ fs (k4:Int)).v<fl.length:=fun h=>by rw [hfs k4 om];exact ⟨by show 2*nd+3*(k4:Int)+1<_;omega,by show 2*nd+3*(k4:Int)+1+1<_;omega⟩
    refine Ah (Gr (Bc rfl rfl) (Af (Ao (A9 rfl (fun c174=>?_) (fun c174=>?_)))))
    ·refine A0 (Ai (Ao (Ax (Ah (Gm rfl (Ga rfl (Af (Bo mixed (Bu (blk b20 [U64 (B),.slice pa parts.length pc] 208::vc 4 (.slice ad18 side.length cp19) (side)::vc 3 (.slice ad16 fl.length cp17) (fl)::blk b4 [I64 (2+nd+((es.length:Nat):Int)),I64 (0),I64 (1),.slice a2 (denseArcs nd nu de es).length c2] 303::vc 305 (.slice a2 (denseArcs nd nu de es).length c2) ((denseArcs nd nu de es))::vc 64 (.slice ad9 (List.replicate es.length (default:Pt)).length cp10) (fs)::blk b3 [.int .u64 (0),.slice none 0 0] 208::blk b2 [I64 (nu),I64 (de)] 40::blk b1 [ve,vw,vb,vk,U64 (allB nd),U64 (0#64)] 211::I) 21 (Dr 0 rfl (Aa fld208_1 rfl) (Dr 1 rfl (Au ty22) ?_)))))))))))
     refine Dr 2 rfl (Bm (vs:=[_,_,_,_,_,_]) ty211) ?_
     refine Dr 3 rfl (Ad rfl) (Dr 4 rfl (Ad rfl) (Dr 5 rfl (Ad rfl) (Dr 6 rfl (A8 (α:=Pt) (xs:=fs) Ex ty64 rfl rfl Br om oo) (Dr 7 rfl (B0 (α:=Pt) (xs:=fs) ty64 rfl Br om oo) ?_))))
     have hfu2:=hfu om
     refine Dr 8 rfl (Ad rfl) (Dr 9 rfl (Aa fld211_1 rfl) (Dr 10 rfl (Au ty22) ?_))
     refine Dr 11 rfl (Ad rfl) (Dr 12 rfl (A8 (α:=Int) (xs:=ws) Ab ty3 rfl rfl (Bf hw) om oo) (Dr 13 rfl (B2 (xs:=ws) ty3 rfl (Bf hw) om oo) ?_))
     rw [hP.w1 k4 om]
     refine Dr 14 rfl (Aa fld40_1 rfl) (Dr 15 rfl (Au ty3) ?_)
     refine Dr 16 rfl (E7 rfl rfl (by unfold InR;omega)) ?_
     rw [Int.one_mul]
     refine Ds1 17 (Se rfl (Am call283 rfl rfl (Part_ok Br hfu2.1 hfu2.2 (flow_small hN hD4 hB.flow) hD4)) ?_)
     rintro _ _ ⟨_,_,⟨px,rfl,rfl⟩,rfl,rfl⟩
     refine ⟨Ay,?_⟩
     refine Ds1 18 (Se1 rfl (B9 (α:=Int) (cs:=[_]) (xs:=[px]) Ab ty3 rfl rfl dc dc rfl rfl rfl rfl) fun ad21=>?_)
     refine Ds1 19 (Se2 rfl (Ca (α:=Int) (e:=3) (xs:=parts) (ys:=([px]:List Int)) Ab ty3 rfl rfl rfl mm Br lcn dc rfl (fun _ _=>am)) fun ad22 cp23=>?_)
     refine Dr 20 rfl (Aa fld208_1 rfl) (C4 kr ?_)
     refine Ae 21 rfl (Ek ty22) ?_
     rintro _ _ ⟨rfl,rfl⟩
     refine C5 kr ?_
     exact Aj (Ai (As (S8 2 3 4 9 16 19 172 173 rfl rfl rfl rfl rfl rfl rfl rfl) (Aw (Gr (Rad rfl rfl) (Gm rfl (Bj (B6 ((k4+1),(ad22),(cp23),(parts++([px]:List Int))) (by dsimp only;exact ⟨om,lap⟩))))))))
    ·refine Bt (Ak (Ak (A6 (Ai (Ah (Gl2 ty208 ?_))))))
     refine Ge0 (B1 ty208) ?_
     exact Af (A2 (Cw rfl ty208 rfl mm rfl (vc 3 (.slice pa parts.length pc) parts::I) B7 ⟨B,pa,pc,parts,rfl,solve_of hG hm hN hD4 hB om hB6,by omega,rfl⟩))
variable {κ:Ctx}{I:List Item}
theorem mkF_mul{a b:Int}(h0:0≤a)(h1:0<b):(mkF a b).den*a=(mkF a b).num*b:=by
 have hg:=gcdI_pos (a:=a) h1
 have d1:gcdI a b ∣ a:=by
  obtain ⟨x,hx⟩:=Nat.gcd_dvd_left a.toNat b.toNat
  exact ⟨(x:Int),by unfold gcdI;rw [←Int.natCast_mul,←hx];omega⟩
 have d2:gcdI a b ∣ b:=by
  obtain ⟨x,hx⟩:=Nat.gcd_dvd_right a.toNat b.toNat
  exact ⟨(x:Int),by unfold gcdI;rw [←Int.natCast_mul,←hx];omega⟩
 show b / gcdI a b*a=a / gcdI a b*b
 generalize gcdI a b=g at hg d1 d2
 obtain ⟨x,rfl⟩:=d1
 obtain ⟨y,rfl⟩:=d2
 rw [Int.mul_ediv_cancel_left _ om,Int.mul_ediv_cancel_left _ om]
 rw [←Int.mul_assoc,←Int.mul_assoc,Int.mul_comm y g,Int.mul_comm x g,Int.mul_assoc,Int.mul_assoc,Int.mul_comm y x]
theorem mul_rng{x y m n:Int}(hx:0≤x∧x≤m)(hy:0≤y∧y≤n):0≤x*y∧x*y≤m*n:=⟨Int.mul_nonneg hx.1 hy.1,Int.mul_le_mul hx.2 hy.2 hy.1 om⟩
theorem cntB_le(W:BitVec 64):0≤cntB W∧cntB W≤64:=by
 have:=Ed W
 unfold cntB;omega
theorem edges_le{nd:Int}{es:List Pt}(hG:GrOk nd es):es.length≤2016:=by
 have hs:∀e∈es,e∈(List.range 64).flatMap fun (v:Nat)=>(List.range v).map fun (u:Nat)=>(⟨(u:Int),(v:Int)⟩:Pt):=fun e he=>by
  have h:=hG.edge e he
  have hr:=hG.rng
  refine List.mem_flatMap.2 ⟨e.v.toNat,List.mem_range.2 om,List.mem_map.2 ⟨e.u.toNat,List.mem_range.2 om,?_⟩⟩
  rw [Pt.ext_iff']
  exact ⟨by show ((e.u.toNat:Nat):Int)=e.u;omega,by show ((e.v.toNat:Nat):Int)=e.v;omega⟩
 have hl:=List.Nodup.length_le_of_subset (asc_nodup hG.asc) hs
 have e:((List.range 64).flatMap fun (v:Nat)=>(List.range v).map fun (u:Nat)=>(⟨(u:Int),(v:Int)⟩:Pt)).length=2016:=by
  rw [List.length_flatMap]
  simp only [List.length_map,List.length_range]
  decide+kernel
 omega
structure DensR (nd:Int) (es:List Pt) (N D:Int) (B:BitVec 64):Prop where
 dens:DensP nd N D es B
 num:0≤N∧N≤2016
 den:1≤D∧D≤64
 red:∃x y:Int,(0≤x∧x≤2016)∧(1≤y∧y≤64)∧(⟨N,D⟩:Fr)=mkF x y
theorem all_sub{nd:Int}(h0:0≤nd)(h1:nd≤64):subN nd (allB nd):=fun x hx=>by
 have h:=mem_listB.1 hx
 have h2:x.toNat<64:=Classical.byContradiction fun hn=>by rw [BitVec.getLsbD_of_ge _ _ om] at h;cases h.2
 rw [getLsb_allB h0 h1 h2,decide_eq_true_eq] at h
 omega
theorem all_ne{nd:Int}(h0:1≤nd)(h1:nd≤64):allB nd≠0#64:=nz_listB.2 ⟨0,mem_listB.2 ⟨Int.le_refl _,by
 rw [getLsb_allB om h1 dc,decide_eq_true_eq];omega⟩⟩
theorem plainP(m:Nat)(es:List Pt):PlainP (m:Int) es (List.replicate es.length 1) (List.replicate m (default:Int)) (List.replicate m 1) where
 wl:=List.length_replicate
 w1:=fun i hi=>at_rep _ _ _ om om
 bl:=by rw [List.length_replicate,Int.toNat_natCast]
 b0:=fun i h0 h1=>by rw [at_rep _ _ _ h0 om];rfl
 cl:=by rw [List.length_replicate,Int.toNat_natCast]
 c1:=fun i h0 h1=>at_rep _ _ _ h0 om
set_option maxHeartbeats 2000000 in
theorem Densest_ok{nd:Int}{ve vw vb vk:Value}{es:List Pt}{ws bs cs:List Int}(hl:Sl κ I ve es)(hw:Sl κ I vw ws)(hb:Sl κ I vb bs)(hkc:Sl κ I vk cs)(hG:GrOk nd es)(hm:es.length≤2016)(hP:PlainP nd es ws bs cs)(h1:1≤nd)(hT:TabRd κ I 0 tzCells) :
    CallS Tryz.prog κ 170 [.agg #[ve,vw,vb,vk,U64 (allB nd),U64 (0#64)]] I (fun r J=>∃B a c parts N D,r = .tuple #[.agg #[U64 B,.slice a (parts:List Int).length c],.agg #[I64 N,I64 D]]∧DensR nd es N D B∧parts.length=es.length∧J=vc 3 (.slice a parts.length c) parts::I):=by
 have hrng:=hG.rng
 have hwl:=hP.wl
 have hbl:=hP.bl
 have hcl:=hP.cl
 refine Ce1 Tryz.func170 rfl rfl ?_
 refine Ah (Ge1 (Bb (cs:=[_,_,_,_,_,_]) rfl rfl rfl) fun b1=>Ge1 (A5 ty208 rfl) fun b2=>Ge1 (A5 ty40 rfl) fun b3=>Af (Ah (Gf fld211_4 rfl (Gl ty175 ?_))))
 refine Ga rfl (Af (Ax (Bx (σ:=(BitVec 64)) (fun s=>([(1,.pointer (some ⟨b1,0,none⟩)),(2,.pointer (some ⟨b2,0,none⟩)),(3,.pointer (some ⟨b3,0,none⟩)),(4,U64 (s))]:Env)) (fun s=>blk b3 [I64 (0),I64 (0)] 40::blk b2 [.int .u64 (0),.slice none 0 0] 208::blk b1 [ve,vw,vb,vk,U64 (allB nd),U64 (0#64)] 211::I) (fun s=>(subN nd s)∧(s≠0#64)) (fun s=>8257536 - densM es s) (allB nd) (show (subN nd (allB nd:BitVec 64))∧((allB nd:BitVec 64)≠0#64) from ⟨(all_sub hrng.1 hrng.2),(all_ne h1 hrng.2)⟩) (Ac rfl (Ac rfl (Ac rfl (Ac (Cz rfl (by first|rfl|simp)) Bq)))) (show Fit κ _ (blk b3 [I64 (0),I64 (0)] 40::blk b2 [.int .u64 (0),.slice none 0 0] 208::blk b1 [ve,vw,vb,vk,U64 (allB nd),U64 (0#64)] 211::I) from Ay) ?_)))
 rintro wb hp
 obtain ⟨hW,hne⟩:=hp
 have hmle:=densM_le hm hne
 have hib:=insE_bd wb es
 have hcb:=cntB_pos hne
 refine Ax (Ah (Gl6 ty211 ?_))
 refine Gm rfl (G.e (Am call232 rfl rfl (Gain_ok (Bf hl) (Bf hw) (Bf hb) (Bf hkc) hG hm hP wb (by first|exact hW|exact hS.sub) (Cc hT A4))) ?_)
 rintro _ _ ⟨_,_,⟨rfl,rfl⟩,rfl,rfl⟩
 refine Gm rfl (Gr (Az rfl rfl) (Gr (Az rfl rfl) (Ga rfl (Ga rfl (Af (Ah (Gm rfl (Gm rfl (Gc0 (Am call220 rfl rfl (MakeF_ok (insE wb es) (cntB wb) om om)) ?_)))))))))
 refine Gm rfl ?_
 have hn1:=mkF_num (a:=insE wb es) (b:=cntB wb) om om
 have hd1:=mkF_den (a:=insE wb es) (b:=cntB wb) om
 have hmul:=mkF_mul (a:=insE wb es) (b:=cntB wb) om om
 have hred:(⟨(mkF (insE wb es) (cntB wb)).num,(mkF (insE wb es) (cntB wb)).den⟩:Fr)=mkF (insE wb es) (cntB wb):=rfl
 generalize (mkF (insE wb es) (cntB wb)).num=Nn at hn1 hmul hred ⊢
 generalize (mkF (insE wb es) (cntB wb)).den=Dd at hd1 hmul hred ⊢
 refine Gr (Az rfl rfl) (Gr (Az rfl rfl) (Ge1 (A5 ty40 rfl) fun b4=>Ge0 (B1 ty40) ?_))
 refine Ga rfl (Af (As (S4 7 1 2 3 rfl rfl rfl rfl) (Ah (Gl6 ty211 ?_))))
 refine Gl2 ty40 ?_
 refine G.e (Am call233 rfl rfl (Solve_ok (Bf hl) (Bf hw) (Bf hb) (Bf hkc) hG hm hP (nu:=Nn) (de:=Dd) om om)) ?_
 rintro _ _ ⟨_,_,⟨Bn,pa,pc,parts,rfl,hS,hpl,rfl⟩,rfl,rfl⟩
 have hib2:=insE_bd Bn es
 have hcb2:=cntB_le Bn
 refine Ge1 (A5 ty208 rfl) fun b5=>Ge0 (B1 ty208) ?_
 refine Af (Ah (Gl6 ty211 ?_))
 refine Gf fld208_0 rfl (Gl ty175 ?_)
 refine G.e (Am call232 rfl rfl (Gain_ok (Bf hl) (Bf hw) (Bf hb) (Bf hkc) hG hm hP Bn (by first|exact hW|exact hS.sub) (Cc hT A4))) ?_
 rintro _ _ ⟨_,_,⟨rfl,rfl⟩,rfl,rfl⟩
 refine Gm rfl (Gr (Az rfl rfl) (Gr (Az rfl rfl) (Ga rfl (Ga rfl (Af (As (S7 6 5 9 7 1 2 3 rfl rfl rfl rfl rfl rfl rfl) (Ao (Ah (Gm rfl (Gf fld40_1 rfl (Gl ty3 ?_)))))))))))
 refine Gr (E7 rfl rfl (by unfold InR;first|omega|(have hp1:=mul_rng (x:=insE Bn es) (y:=Dd) (m:=2016) (n:=64) om om;have hp2:=mul_rng (x:=Nn) (y:=cntB Bn) (m:=2016) (n:=64) om om;omega))) (Gf fld40_0 rfl (Gl ty3 ?_))
 refine Gm rfl (Gr (E7 rfl rfl (by unfold InR;first|omega|(have hp1:=mul_rng (x:=insE Bn es) (y:=Dd) (m:=2016) (n:=64) om om;have hp2:=mul_rng (x:=Nn) (y:=cntB Bn) (m:=2016) (n:=64) om om;omega))) (Gr (Dw rfl rfl) (Af (As (S6 42 9 7 1 2 3 rfl rfl rfl rfl rfl rfl) (A9 rfl (fun c42=>?_) (fun c42=>?_))))))
 ·refine Ao (Bo mixed (Bu (blk b5 [U64 (Bn),.slice pa parts.length pc] 208::vc 3 (.slice pa parts.length pc) (parts)::blk b4 [I64 (Nn),I64 (Dd)] 40::blk b1 [ve,vw,vb,vk,U64 (allB nd),U64 (0#64)] 211::I) 2 (Dr 0 rfl (Bm (vs:=[_,_]) ty208) ?_)))
  refine De (rs:=[1,2]) kr rfl rfl (Eb ?_ (Du ?_))
  ·refine Sr rfl (Bm (vs:=[_,_]) ty40) Ay ?_
   refine C4 kr ?_
   refine Ae 2 rfl (B1 ty208) ?_
   rintro _ _ ⟨rfl,rfl⟩
   refine Ae 3 rfl (B1 ty40) ?_
   rintro _ _ ⟨rfl,rfl⟩
   refine C5 kr ?_
   refine Ai (A2 (Al (Ar (Al (Ar ?_)))))
   have hdn:=hS.done hW hne hmul c42
   exact V.retcc rfl ty208 ty40 rfl rfl mm mm rfl rfl (vc 3 (.slice pa parts.length pc) parts::I) B7 ⟨Bn,pa,pc,parts,Nn,Dd,rfl,⟨hdn,by omega,by omega,_,_,by omega,by omega,hred⟩,hpl,rfl⟩
  ·refine Se0 rfl (B1 ty208) ?_
   refine Ds1 1 (Sr rfl (Bm (vs:=[_,_]) ty40) Ay ?_)
   refine Ds1 3 (Se0 rfl (B1 ty40) ?_)
   refine Dz (Ai (A2 (Al (Ar (Al (Ar ?_))))))
   have hdn:=hS.done hW hne hmul c42
   exact V.retcc rfl ty208 ty40 rfl rfl mm mm rfl rfl (vc 3 (.slice pa parts.length pc) parts::I) B7 ⟨Bn,pa,pc,parts,Nn,Dd,rfl,⟨hdn,by omega,by omega,_,_,by omega,by omega,hred⟩,hpl,rfl⟩
 ·refine A0 (Ai (Aw (Gf fld208_0 rfl (Gl ty175 ?_))))
  refine Ga rfl (Bj (Aj ?_))
  have hneB:Bn≠0#64:=pos_set (nd:=nd) (N:=Nn) (D:=Dd) (es:=es) (by have e:insE Bn es*Dd=Dd*insE Bn es:=Int.mul_comm _ _;omega)
  have hgr:=densM_grow (nd:=nd) (B:=Bn) hne om hmul c42
  have hlB:=densM_le hm hneB
  exact B6 ((Bn)) ⟨hS.sub,hneB⟩
set_option maxHeartbeats 1000000 in
theorem Plain_base{m:Nat}{ea:Option Addr}{ec:Nat}{es:List Pt}(hl:Sl κ I (.slice ea es.length ec) es)(hm:es.length≤2016)(hm64:m≤64) :
    CallS Tryz.prog κ 169 [.agg #[I64 ((m:Int)),.slice ea es.length ec]] I (fun r J=>∃aw cw ab cb ak ck ws bs cs,r = .agg #[.slice ea es.length ec,.slice aw (ws:List Int).length cw,.slice ab (bs:List Int).length cb,.slice ak (cs:List Int).length ck,U64 (allB (m:Int)),U64 0#64]∧PlainP (m:Int) es ws bs cs∧J=vc 3 (.slice ak cs.length ck) cs::vc 3 (.slice aw ws.length cw) ws::vc 3 (.slice ab bs.length cb) bs::I):=by
 refine B4 hl.le fun hmax=>?_
 refine Ce1 Tryz.func169 rfl rfl ?_
 refine Ah (Ge1 (Bb (cs:=[_,_]) rfl rfl rfl) fun b1=>Ge1 (A5 ty211 rfl) fun b2=>Af (W.cut (σ:=Nat×(Option Addr)×Nat) (fun s=>([(1,.pointer (some ⟨b1,0,none⟩)),(2,.pointer (some ⟨b2,0,none⟩)),(3,.pointer (some ⟨s.1,0,none⟩))]:Env)) (fun s=>vc 3 (.slice s.2.1 (List.replicate m (default:Int)).length s.2.2) (List.replicate m (default:Int))::blk s.1 [.slice ea es.length ec,.slice none 0 0,.slice s.2.1 (List.replicate m (default:Int)).length s.2.2,.slice none 0 0,U64 (allB (m:Int)),U64 (0#64)] 211::blk b2 [.slice none 0 0,.slice none 0 0,.slice none 0 0,.slice none 0 0,.int .u64 (0),.int .u64 (0)] 211::blk b1 [I64 ((m:Int)),.slice ea es.length ec] 48::I) (fun s=>True) ?_ ?_))
 ·refine Bo mixed (Bu (blk b2 [.slice none 0 0,.slice none 0 0,.slice none 0 0,.slice none 0 0,.int .u64 (0),.int .u64 (0)] 211::blk b1 [I64 ((m:Int)),.slice ea es.length ec] 48::I) 10 (Dr 0 rfl (Aa fld48_1 rfl) (Dr 1 rfl (Au ty46) ?_)))
  refine Dr 2 rfl (Aa fld48_0 rfl) (Dr 3 rfl (Au ty3) ?_)
  refine Dr 5 rfl (Aa fld48_0 rfl) (Dr 6 rfl (Au ty3) ?_)
  refine De (rs:=[4,7,9]) kr rfl rfl (Eb ?_ (Eb ?_ (Du ?_)))
  ·refine Sc0 rfl (Am call200 rfl rfl (MaskAll_ok (m:Int))) ?_
   refine De (rs:=[7,9]) kr rfl rfl (Eb ?_ (Du ?_))
   ·refine Se2 rfl (Cp (α:=Int) (n:=m) Ab ty3 rfl rfl rfl om om dc rfl) fun ad3 cp4=>?_
    refine Dr 8 rfl (Be (cells:=[.slice ea es.length ec,.slice none 0 0,.slice ad3 (List.replicate m (default:Int)).length cp4,.slice none 0 0,U64 (allB (m:Int)),.int .u64 (0)]) ty211 Dl pl211 rfl kr) (Ds1 9 (Se1 rfl (A5 ty211 rfl) fun b5=>?_))
    refine C4 kr ?_
    refine Ae 10 rfl (Ej ty211) ?_
    rintro _ _ ⟨rfl,rfl⟩
    refine C5 kr ?_
    exact Ep ((b5),(ad3),(cp4)) trivial
   ·refine Se1 rfl (A5 ty211 rfl) fun b6=>?_
    refine Ds1 7 (Se2 rfl (Cp (α:=Int) (n:=m) Ab ty3 rfl rfl rfl om om dc rfl) fun ad7 cp8=>?_)
    refine Dr 8 rfl (Be (cells:=[.slice ea es.length ec,.slice none 0 0,.slice ad7 (List.replicate m (default:Int)).length cp8,.slice none 0 0,U64 (allB (m:Int)),.int .u64 (0)]) ty211 Dl pl211 rfl kr) (C4 kr ?_)
    refine Ae 10 rfl (Ej ty211) ?_
    rintro _ _ ⟨rfl,rfl⟩
    refine C5 kr ?_
    exact Ep ((b6),(ad7),(cp8)) trivial
  ·refine Se2 rfl (Cp (α:=Int) (n:=m) Ab ty3 rfl rfl rfl om om dc rfl) fun ad9 cp10=>?_
   refine De (rs:=[4,9]) kr rfl rfl (Eb ?_ (Du ?_))
   ·refine Sc0 rfl (Am call200 rfl rfl (MaskAll_ok (m:Int))) ?_
    refine Dr 8 rfl (Be (cells:=[.slice ea es.length ec,.slice none 0 0,.slice ad9 (List.replicate m (default:Int)).length cp10,.slice none 0 0,U64 (allB (m:Int)),.int .u64 (0)]) ty211 Dl pl211 rfl kr) (Ds1 9 (Se1 rfl (A5 ty211 rfl) fun b11=>?_))
    refine C4 kr ?_
    refine Ae 10 rfl (Ej ty211) ?_
    rintro _ _ ⟨rfl,rfl⟩
    refine C5 kr ?_
    exact Ep ((b11),(ad9),(cp10)) trivial
   ·refine Se1 rfl (A5 ty211 rfl) fun b12=>?_
    refine Ds1 4 (Sc0 rfl (Am call200 rfl rfl (MaskAll_ok (m:Int))) ?_)
    refine Dr 8 rfl (Be (cells:=[.slice ea es.length ec,.slice none 0 0,.slice ad9 (List.replicate m (default:Int)).length cp10,.slice none 0 0,U64 (allB (m:Int)),.int .u64 (0)]) ty211 Dl pl211 rfl kr) (C4 kr ?_)
    refine Ae 10 rfl (Ej ty211) ?_
    rintro _ _ ⟨rfl,rfl⟩
    refine C5 kr ?_
    exact Ep ((b12),(ad9),(cp10)) trivial
  ·refine Se1 rfl (A5 ty211 rfl) fun b13=>?_
   refine De (rs:=[4,7]) kr rfl rfl (Eb ?_ (Du ?_))
   ·refine Sc0 rfl (Am call200 rfl rfl (MaskAll_ok (m:Int))) ?_
    refine Ds1 7 (Se2 rfl (Cp (α:=Int) (n:=m) Ab ty3 rfl rfl rfl om om dc rfl) fun ad14 cp15=>?_)
    refine Dr 8 rfl (Be (cells:=[.slice ea es.length ec,.slice none 0 0,.slice ad14 (List.replicate m (default:Int)).length cp15,.slice none 0 0,U64 (allB (m:Int)),.int .u64 (0)]) ty211 Dl pl211 rfl kr) (C4 kr ?_)
    refine Ae 10 rfl (Ej ty211) ?_
    rintro _ _ ⟨rfl,rfl⟩
    refine C5 kr ?_
    exact Ep ((b13),(ad14),(cp15)) trivial
   ·refine Se2 rfl (Cp (α:=Int) (n:=m) Ab ty3 rfl rfl rfl om om dc rfl) fun ad16 cp17=>?_
    refine Ds1 4 (Sc0 rfl (Am call200 rfl rfl (MaskAll_ok (m:Int))) ?_)
    refine Dr 8 rfl (Be (cells:=[.slice ea es.length ec,.slice none 0 0,.slice ad16 (List.replicate m (default:Int)).length cp17,.slice none 0 0,U64 (allB (m:Int)),.int .u64 (0)]) ty211 Dl pl211 rfl kr) (C4 kr ?_)
    refine Ae 10 rfl (Ej ty211) ?_
    rintro _ _ ⟨rfl,rfl⟩
    refine C5 kr ?_
    exact Ep ((b13),(ad16),(cp17)) trivial
 ·rintro ⟨pb,ab,cb⟩ hp
  show W Tryz.prog κ 35 _ _ ([(1,.pointer (some ⟨b1,0,none⟩)),(2,.pointer (some ⟨b2,0,none⟩)),(3,.pointer (some ⟨pb,0,none⟩))]:Env) (vc 3 (.slice ab (List.replicate m (default:Int)).length cb) (List.replicate m (default:Int))::blk pb [.slice ea es.length ec,.slice none 0 0,.slice ab (List.replicate m (default:Int)).length cb,.slice none 0 0,U64 (allB (m:Int)),U64 (0#64)] 211::blk b2 [.slice none 0 0,.slice none 0 0,.slice none 0 0,.slice none 0 0,.int .u64 (0),.int .u64 (0)] 211::blk b1 [I64 ((m:Int)),.slice ea es.length ec] 48::I)
  refine Ao (Ah (Gf fld48_1 rfl (Gl ty46 ?_)))
  refine Gr (Bw Bh rfl) (Gm rfl (Af (Ax (Bx (σ:=Nat×(Option Addr)×Nat×(List Int)) (fun s=>([(1,.pointer (some ⟨b1,0,none⟩)),(2,.pointer (some ⟨b2,0,none⟩)),(3,.pointer (some ⟨pb,0,none⟩)),(15,I64 (((es.length:Nat):Int))),(16,I64 (((s.1:Nat):Int)))]:Env)) (fun s=>vc 3 (.slice s.2.1 s.2.2.2.length s.2.2.1) (s.2.2.2)::vc 3 (.slice ab (List.replicate m (default:Int)).length cb) (List.replicate m (default:Int))::blk pb [.slice ea es.length ec,.slice s.2.1 s.2.2.2.length s.2.2.1,.slice ab (List.replicate m (default:Int)).length cb,.slice none 0 0,U64 (allB (m:Int)),U64 (0#64)] 211::blk b2 [.slice none 0 0,.slice none 0 0,.slice none 0 0,.slice none 0 0,.int .u64 (0),.int .u64 (0)] 211::blk b1 [I64 ((m:Int)),.slice ea es.length ec] 48::I) (fun s=>(s.1≤es.length)∧(s.2.2.2=List.replicate s.1 1)) (fun s=>es.length - s.1) (0,none,0,[]) (show ((0:Nat)≤es.length)∧(([]:List Int)=List.replicate (0:Nat) 1) from ⟨om,rfl⟩) (Ac rfl (Ac rfl (Ac rfl (Ac rfl (Ac Cb Bq))))) (show Fit κ _ (vc 3 (.slice (none) ([]).length (0)) (([]))::vc 3 (.slice ab (List.replicate m (default:Int)).length cb) (List.replicate m (default:Int))::blk pb [.slice ea es.length ec,.slice (none) ([]).length (0),.slice ab (List.replicate m (default:Int)).length cb,.slice none 0 0,U64 (allB (m:Int)),U64 (0#64)] 211::blk b2 [.slice none 0 0,.slice none 0 0,.slice none 0 0,.slice none 0 0,.int .u64 (0),.int .u64 (0)] 211::blk b1 [I64 ((m:Int)),.slice ea es.length ec] 48::I) from (B3 _ _)) ?_))))
  rintro ⟨k,aw,cw,ws⟩ hp
  dsimp only at hp ⊢
  obtain ⟨hk,hws⟩:=hp
  have hwsl:ws.length=k:=by rw [hws,List.length_replicate]
  refine Ah (Gr (Bc rfl rfl) (Af (Ao (A9 rfl (fun c17=>?_) (fun c17=>?_)))))
  ·refine A0 (Ai (Ao (Ax (Aw (Gf fld211_1 rfl (Gl ty22 ?_))))))
   refine Ge1 (B9 (α:=Int) (cs:=[_]) (xs:=[1]) Ab ty3 rfl rfl dc dc rfl rfl rfl rfl) fun ad18=>?_
   refine Ge2 (Ca (α:=Int) (e:=3) (xs:=ws) (ys:=([1]:List Int)) Ab ty3 rfl rfl rfl mm Br lcn dc rfl (fun _ _=>am)) fun ad19 cp20=>?_
   refine Gf fld211_1 rfl (Ge0 (Es6_1 ty22) ?_)
   exact Bj (Aj (Ai (Aw (Gr (Rad rfl rfl) (Gm rfl (Bj (B6 ((k+1),(ad19),(cp20),(ws++([1]:List Int))) (by dsimp only;exact ⟨om,(by rw [hws,List.replicate_succ'])⟩))))))))
  ·refine Bt (Ak (Ak (A6 (Ai (Ao (Ah (Gf fld48_0 rfl (Gl ty3 ?_))))))))
   refine Gm rfl (Af (Ax (Bx (σ:=Nat×(Option Addr)×Nat×(List Int)) (fun s=>([(2,.pointer (some ⟨b2,0,none⟩)),(3,.pointer (some ⟨pb,0,none⟩)),(25,I64 ((m:Int))),(26,I64 (((s.1:Nat):Int)))]:Env)) (fun s=>vc 3 (.slice s.2.1 s.2.2.2.length s.2.2.1) (s.2.2.2)::vc 3 (.slice aw ws.length cw) (ws)::vc 3 (.slice ab (List.replicate m (default:Int)).length cb) (List.replicate m (default:Int))::blk pb [.slice ea es.length ec,.slice aw ws.length cw,.slice ab (List.replicate m (default:Int)).length cb,.slice s.2.1 s.2.2.2.length s.2.2.1,U64 (allB (m:Int)),U64 (0#64)] 211::blk b2 [.slice none 0 0,.slice none 0 0,.slice none 0 0,.slice none 0 0,.int .u64 (0),.int .u64 (0)] 211::blk b1 [I64 ((m:Int)),.slice ea es.length ec] 48::I) (fun s=>(s.1≤m)∧(s.2.2.2=List.replicate s.1 1)) (fun s=>m - s.1) (0,none,0,[]) (show ((0:Nat)≤m)∧(([]:List Int)=List.replicate (0:Nat) 1) from ⟨om,rfl⟩) (Ac rfl (Ac rfl (Ac rfl (Ac Cb Bq)))) (show Fit κ _ (vc 3 (.slice (none) ([]).length (0)) (([]))::vc 3 (.slice aw ws.length cw) (ws)::vc 3 (.slice ab (List.replicate m (default:Int)).length cb) (List.replicate m (default:Int))::blk pb [.slice ea es.length ec,.slice aw ws.length cw,.slice ab (List.replicate m (default:Int)).length cb,.slice (none) ([]).length (0),U64 (allB (m:Int)),U64 (0#64)] 211::blk b2 [.slice none 0 0,.slice none 0 0,.slice none 0 0,.slice none 0 0,.int .u64 (0),.int .u64 (0)] 211::blk b1 [I64 ((m:Int)),.slice ea es.length ec] 48::I) from (B3 _ _)) ?_)))
   rintro ⟨k2,ak,ck,cs⟩ hp
   dsimp only at hp ⊢
   obtain ⟨hk2,hcs⟩:=hp
   have hcsl:cs.length=k2:=by rw [hcs,List.length_replicate]
   refine Ah (Gr (Bc rfl rfl) (Af (Ao (A9 rfl (fun c27=>?_) (fun c27=>?_)))))
   ·refine A0 (Ai (Ao (Ax (Aw (Gf fld211_3 rfl (Gl ty22 ?_))))))
    refine Ge1 (B9 (α:=Int) (cs:=[_]) (xs:=[1]) Ab ty3 rfl rfl dc dc rfl rfl rfl rfl) fun ad21=>?_
    refine Ge2 (Ca (α:=Int) (e:=3) (xs:=cs) (ys:=([1]:List Int)) Ab ty3 rfl rfl rfl mm Br lcn dc rfl (fun _ _=>am)) fun ad22 cp23=>?_
    refine Gf fld211_3 rfl (Ge0 (Es6_1 ty22) ?_)
    exact Bj (Aj (Ai (Aw (Gr (Rad rfl rfl) (Gm rfl (Bj (B6 ((k2+1),(ad22),(cp23),(cs++([1]:List Int))) (by dsimp only;exact ⟨om,(by rw [hcs,List.replicate_succ'])⟩))))))))
   ·refine Bt (Ak (Ak (A6 (Ai (Ah (Gl6 ty211 ?_))))))
    refine Ge0 (Ej ty211) ?_
    refine Af (A2 ?_)
    have hP:=plainP m es
    have hws2:ws=List.replicate es.length 1:=by rw [hws,show k=es.length by omega]
    have hcs2:cs=List.replicate m 1:=by rw [hcs,show k2=m by omega]
    exact Cw rfl ty211 rfl mm rfl (vc 3 (.slice ak cs.length ck) cs::vc 3 (.slice aw ws.length cw) ws::vc 3 (.slice ab (List.replicate m (default:Int)).length cb) (List.replicate m (default:Int))::I) B7 ⟨aw,cw,ab,cb,ak,ck,ws,List.replicate m (default:Int),cs,rfl,by rw [hws2,hcs2];exact hP,rfl⟩
theorem Plain_ok{nd:Int}{ea:Option Addr}{ec:Nat}{es:List Pt}(hl:Sl κ I (.slice ea es.length ec) es)(hm:es.length≤2016)(hr:0≤nd∧nd≤64) :
  CallS Tryz.prog κ 169 [.agg #[I64 nd,.slice ea es.length ec]] I fun r J=>∃aw cw ab cb ak ck ws bs cs,r = .agg #[.slice ea es.length ec,.slice aw (ws:List Int).length cw,.slice ab (bs:List Int).length cb,.slice ak (cs:List Int).length ck,U64 (allB nd),U64 0#64]∧PlainP nd es ws bs cs∧J=vc 3 (.slice ak cs.length ck) cs::vc 3 (.slice aw ws.length cw) ws::vc 3 (.slice ab bs.length cb) bs::I:=by
 obtain ⟨m,rfl⟩:=Int.eq_ofNat_of_zero_le hr.1
 exact Plain_base hl hm om
end Go.Sl
