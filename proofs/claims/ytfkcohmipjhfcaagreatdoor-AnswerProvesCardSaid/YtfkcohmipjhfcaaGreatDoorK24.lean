/- A part of the proofs of statements of this seat: contracts of functions, and the plain laws that they lean on. No conditions. -/
import Derived.Test.YtfkcohmipjhfcaaGreatDoorK23
set_option linter.unusedVariables false
set_option linter.unusedSimpArgs false
set_option linter.unusedSectionVars false
open Go.Proofs.Tryz (prog)
open List (replicate)
namespace Go.Sl
open Go.Proofs
set_option maxRecDepth 4000
variable {κ:Ctx}{I:List Item}
def loadT(es:List Pt)(D:Int)(parts:List Int)(k:Nat)(v:Int):Int:=sumN k λi=>(if (e_ es i).u=v then e_ parts i else 0)+(if (e_ es i).v=v then D - e_ parts i else 0)
theorem loadT_succ(es:List Pt)(D:Int)(parts:List Int)(k:Nat)(v:Int):loadT es D parts (k+1) v=loadT es D parts k v+((if (e_ es k).u=v then e_ parts k else 0)+(if (e_ es k).v=v then D - e_ parts k else 0)):=rfl
theorem loadT_bd{es:List Pt}{D:Int}{parts:List Int}(h:∀i:Nat,i<es.length->0<=e_ parts i/\e_ parts i<=D)(hD:D<=64)(v:Int):∀k:Nat,k<=es.length->0<=loadT es D parts k v/\loadT es D parts k v<=128*(k:Int)
 |0,_=>by simp [loadT,sumN]
 |k+1,hk=>by
  have ih:=loadT_bd h hD v k om
  have hp:=h k om
  rw [loadT_succ]
  split<;>split<;>omega
theorem sums_next{es:List Pt}{D:Int}{parts out:List Int}{k n:Nat}(hl:out.length=n)(hr:(0<=(e_ es k).u/\(e_ es k).u<n)/\0<=(e_ es k).v/\(e_ es k).v<n)(hne:(e_ es k).u≠(e_ es k).v)
  (h:∀v:Int,0<=v->v<n->e_ out v=loadT es D parts k v):∀v:Int,0<=v->v<n->e_ (List.set (List.set out (e_ es k).u.toNat (e_ out (e_ es k).u+e_ parts k)) (e_ es k).v.toNat (e_ out (e_ es k).v+(D - e_ parts k))) v=loadT es D parts (k+1) v:=λv h0 h1=>by
 rw [C8 _ _ _ _ hr.2.1 h0 (by rw [List.length_set];omega),C8 _ _ _ _ hr.1.1 h0 om,loadT_succ,h v h0 h1,h _ hr.1.1 hr.1.2,h _ hr.2.1 hr.2.2]
 by_cases e1:(e_ es k).v=v
 ·rw [if_pos e1,if_pos e1,if_neg om,e1];omega
 ·rw [if_neg e1,if_neg e1]
  by_cases e2:(e_ es k).u=v
  ·rw [if_pos e2,if_pos e2,e2];omega
  ·rw [if_neg e2,if_neg e2];omega
theorem ones_at{n i:Nat}(h:i<n):e_ (replicate n (1:Int)) (i:Int)=1:=at_rep _ _ _ om om
set_option maxHeartbeats 1000000 in
theorem Right19_ok{pa wa:Option Addr}{pc wc:Nat}{parts ws:List Int}{De:Int}(hw:Sl κ I (.slice wa ws.length wc) ws)(hs:Sl κ I (.slice pa parts.length pc) parts)(hD:1<=De/\De<=64)(hr:∀i:Nat,i<parts.length->0<=e_ parts i/\e_ parts i<=De)(hw1:∀i:Nat,i<ws.length->e_ ws i=1)(hpl:parts.length=ws.length)(hb:ws.length<=2016):eu prog κ 116 [.slice wa ws.length wc,.agg #[e7 De,.slice pa parts.length pc]] I (λr J=>r = .bool true/\I=J):=by
 refine Ce2 Tryz.func116 C C ?_
 refine Ai (Ge1 (A9 (cs:=[_,_]) C C C) λb1=>Ga C (Af (Ap (Ai (Gf fld88_0 C (Gl ef ?_))))))
 refine Gr (A7 C C) (Gm C (Bg (d:=10) C (λg10=>?_) (λg10=>?_)))
 ·exfalso;omega
 ·refine e9 (Ab fld88_0 C) (e9 (As ef) ?_)
  refine e9 (Bw C C) (Gr (Ao C C) (Gm C (Bg (d:=15) C (λg15=>?_) (λg15=>?_))))
  ·exfalso;omega
  ·refine e9 (Ab fld88_1 C) (e9 (As ty22) ?_)
   refine e9 (Bs Ac C) (e9 (Ad C) (e9 (Bs Ac C) (e9 (Br C C) (Gr (Ao C C) (Af (Aq (S3 22 3 0 C C C) (A8 C (λc22=>?_) (λc22=>?_))))))))
   ·exfalso;omega
   ·refine Ay (Aj (Ap (Ai (Gf fld88_1 C (Gl ty22 ?_)))))
    refine Gr (Bs Ac C) (Gm C (Af (A0 (B1 (σ:=Nat) (λs=>([(0,.slice wa ws.length wc),(3,.pointer (some ⟨b1,0,none⟩)),(24,.slice pa parts.length pc),(25,e7 ((parts.length:Nat):Int)),(26,e7 ((s:Nat):Int))]:Env)) (λs=>e8 b1 [e7 De,.slice pa parts.length pc] 88::I) (λs=>(s<=parts.length)) (λs=>parts.length - s) 0 (show ((0:Nat)<=parts.length) from om) (Aa C (Aa C (Aa C (Aa C (Aa Ca Bp))))) (show Fit κ _ (e8 b1 [e7 De,.slice pa parts.length pc] 88::I) from A1) ?_))))
    rintro k hp
    have hk:=hp
    refine Ai (Gr (A7 C C) (Af (Ap (A8 C (λc27=>?_) (λc27=>?_)))))
    ·refine Ay (Aj (Ap (A0 (Ai (Gm C (Gr (Az (α:=Int) (xs:=parts) Ac ef C C (Ba hs) om om) (Gr (Bo (xs:=parts) ef C (Ba hs) om om) (Ga C (Ga C (Af (Ap (Bl mixed (Bt (e8 b1 [e7 De,.slice pa parts.length pc] 88::I) 13 (Dr 0 C (Ad C) (Dr 1 C (A7 C C) (Dr 2 C (Ad C) (Cs (d:=33) C (λg33=>?_) (λg33=>?_))))))))))))))))))
     ·exfalso;have h1:=hr k om;omega
     ·refine Dro 3 C (Ad C) (Dro 4 C (Ad C) (Dro 5 C (Ad C) (Dro 6 C (Az (α:=Int) (xs:=ws) Ac ef C C (Ba hw) om om) (Dro 7 C (Bo (xs:=ws) ef C (Ba hw) om om) ?_))))
      rw [hw1 k om]
      refine Dro 8 C (Ab fld88_0 C) (Dro 9 C (As ef) ?_)
      refine Dro 10 C (Em C C (by unfold InR;omega)) ?_
      rw [Int.one_mul]
      refine Dro 11 C (Bw C C) (Dr 12 C (Ao C C) (Dz (Aj (Aq (S6 43 0 3 24 25 26 C C C C C C) (A8 C (λc43=>?_) (λc43=>?_))))))
      ·exfalso;have h1:=hr k om;omega
      ·exact Ay (Ak (Aj (Ax (Gr (Rad C C) (Gm C (Bi (B5 ((k+1)) om)))))))
    ·exact Bv (Al (Al (A5 (Aj (Ai (Ga C (Af (A2 (A6 C C I A3 ⟨rfl,rfl⟩)))))))))
set_option maxHeartbeats 1000000 in
theorem Ones19_ok{nd:Int}{va:Value}{es:List Pt}(hl:Sl κ I va es)(hb:es.length<=2016):eu prog κ 117 [.agg #[e7 nd,va]] I (λr J=>∃a c,r = .slice a (replicate es.length (1:Int)).length c/\J=vc 3 (.slice a (replicate es.length (1:Int)).length c) (replicate es.length (1:Int))::I):=by
 refine Ce1 Tryz.func117 C C ?_
 refine Ai (Ge1 (A9 (cs:=[_,_]) C C C) λb1=>Ga C (Af (Ai (Ga C (Af (Ap (Ai (Gf fld48_1 C (Gl ty46 ?_)))))))))
 refine Gr (B0 (α:=Pt) (xs:=es) Bh C (Ba hl)) (Gm C (Af (A0 (B1 (σ:=Nat×(Option Addr)×Nat×(List Int)) (λs=>([(3,.slice s.2.1 s.2.2.2.length s.2.2.1),(6,e7 ((es.length:Nat):Int)),(7,e7 ((s.1:Nat):Int))]:Env)) (λs=>vc 3 (.slice s.2.1 s.2.2.2.length s.2.2.1) (s.2.2.2)::e8 b1 [e7 nd,va] 48::I) (λs=>(s.1<=es.length)/\(s.2.2.2=replicate s.1 1)) (λs=>es.length - s.1) (0,none,0,[]) (show ((0:Nat)<=es.length)/\(([]:List Int)=replicate (0:Nat) 1) from ⟨om,rfl⟩) (Aa (Dl C (by first|rfl|simp)) (Aa C (Aa Ca Bp))) (show Fit κ _ (vc 3 (.slice none ([]).length 0) (([]))::e8 b1 [e7 nd,va] 48::I) from (B2 _ _)) ?_))))
 rintro ⟨k,oa,oc,out⟩ hp
 dsimp only at hp ⊢
 obtain ⟨hk,ho⟩:=hp
 have hol:out.length=k:=by rw [ho,List.length_replicate]
 refine Ai (Gr (A7 C C) (Af (Ap (A8 C (λc8=>?_) (λc8=>?_)))))
 ·refine Ay (Aj (Ap (A0 (Ax (Gm C (Ge1 (Cf (α:=Int) (cs:=[_]) (xs:=[1]) Ac ef C C dc dc C C C C) λad2=>?_))))))
  refine Ge2 (Cm (α:=Int) (e:=3) (xs:=out) (ys:=([1]:List Int)) Ac ef C C C mm Bk lcn dc C (λ_ _=>am)) λad3 cp4=>?_
  exact Ga C (Bi (Ak (Aj (Ax (Gr (Rad C C) (Gm C (Bi (B5 ((k+1),(ad3),(cp4),(out++([1]:List Int))) (by dsimp only;exact ⟨om,(by rw [List.replicate_succ',←ho])⟩)))))))))
 ·refine Bv (Al (Al (A5 (Aj (Ai (Gm C (Ga C (Af (A2 ?_)))))))))
  have hX:(replicate es.length (1:Int))=out:=by rw [ho,show k=es.length by omega]
  exact A6 C C (vc 3 (.slice oa (replicate es.length (1:Int)).length oc) (replicate es.length (1:Int))::I) (by rw [hX];exact A1) ⟨oa,oc,by rw [hX],rfl⟩
set_option maxHeartbeats 2000000 in
theorem Sums19_ok{nd:Int}{va:Value}{es:List Pt}{pa wa:Option Addr}{pc wc:Nat}{parts ws:List Int}{De:Int}(hl:Sl κ I va es)(hw:Sl κ I (.slice wa ws.length wc) ws)(hs:Sl κ I (.slice pa parts.length pc) parts)(hG:GrOk nd es)(hD:1<=De/\De<=64)(hr:∀i:Nat,i<parts.length->0<=e_ parts i/\e_ parts i<=De)(hw1:∀i:Nat,i<ws.length->e_ ws i=1)(hpl:parts.length=ws.length)(hpe:ws.length=es.length)(hb:es.length<=2016):eu prog κ 246 [.agg #[e7 nd,va],.slice wa ws.length wc,.agg #[e7 De,.slice pa parts.length pc]] I (λr J=>∃a c out,r = .slice a (out:List Int).length c/\((out.length:Int)=nd/\∀v:Int,0<=v->v<nd->e_ out v=loadS es De parts v)/\J=vc 3 (.slice a out.length c) out::I):=by
 have hrng:=hG.rng
 refine Ce3 Tryz.func246 C C ?_
 refine Ai (Ge1 (A9 (cs:=[_,_]) C C C) λb1=>Ge1 (A9 (cs:=[_,_]) C C C) λb2=>Ga C (Af (Ai (Gf fld48_0 C (Gl ef ?_)))))
 refine Ge2 (Cp (α:=Int) (n:=nd.toNat) Ac ef C C C om om dc C) λad3 cp4=>?_
 refine Ga C (Af (Ap (Ai (Gf fld48_1 C (Gl ty46 ?_)))))
 refine Gr (B0 (α:=Pt) (xs:=es) Bh C (Ba hl)) (Gm C (Af (Aq (S6 16 15 14 7 5 1 C C C C C C) (A0 (B1 (σ:=Nat×(List Int)) (λs=>([(1,.slice wa ws.length wc),(5,.pointer (some ⟨b2,0,none⟩)),(7,.slice ad3 (replicate nd.toNat (default:Int)).length cp4),(14,va),(15,e7 ((es.length:Nat):Int)),(16,e7 ((s.1:Nat):Int))]:Env)) (λs=>vc 3 (.slice ad3 (replicate nd.toNat (default:Int)).length cp4) (s.2)::e8 b2 [e7 De,.slice pa parts.length pc] 88::e8 b1 [e7 nd,va] 48::I) (λs=>(s.1<=es.length)/\(s.2.length=nd.toNat)/\(∀v:Int,0<=v->v<(nd.toNat:Int)->e_ s.2 v=loadT es De parts s.1 v)) (λs=>es.length - s.1) (0,replicate nd.toNat (default:Int)) (show ((0:Nat)<=es.length)/\((replicate nd.toNat (default:Int):List Int).length=nd.toNat)/\(∀v:Int,0<=v->v<(nd.toNat:Int)->e_ (replicate nd.toNat (default:Int):List Int) v=loadT es De parts (0:Nat) v) from ⟨om,(by rw [List.length_replicate]),(λv h0 h1=>by rw [at_rep _ _ _ h0 om];rfl)⟩) (Aa C (Aa C (Aa C (Aa C (Aa C (Aa Ca Bp)))))) (show Fit κ _ (vc 3 (.slice ad3 (replicate nd.toNat (default:Int)).length cp4) ((replicate nd.toNat (default:Int)))::e8 b2 [e7 De,.slice pa parts.length pc] 88::e8 b1 [e7 nd,va] 48::I) from B7) ?_)))))
 rintro ⟨k,out⟩ hp
 dsimp only at hp ⊢
 obtain ⟨hk,hol,hsv⟩:=hp
 have hek:=λh:k<es.length=>hG.edge (e_ es ((k:Nat):Int)) (Bf om om)
 have hpk:=λh:k<es.length=>hr k om
 refine Ai (Gr (A7 C C) (Af (Ap (A8 C (λc17=>?_) (λc17=>?_)))))
 ·refine Ay (Aj (Ap (A0 (Ai (Gm C (Gr (Az (α:=Pt) (xs:=es) Bh ty135 C C (Ba hl) om oo) (Gr (Bz (α:=Pt) (xs:=es) ty135 C (Ba hl) om oo) (Ge1 (Au ty135 C) λb5=>Ga C (Ge0 (Bq ty135) ?_)))))))))
  have hek1:=hek om
  have hpk1:=hpk om
  have hs1:=hsv (e_ es k).u om om
  have hs2:=hsv (e_ es k).v om om
  have hb1:=loadT_bd (es:=es) (parts:=parts) (λi hi=>hr i om) hD.2 (e_ es k).u k om
  have hb2:=loadT_bd (es:=es) (parts:=parts) (λi hi=>hr i om) hD.2 (e_ es k).v k om
  refine Af (Ap (Bl mixed (Bt (e8 b5 [e7 ((e_ es k).u),e7 ((e_ es k).v)] 135::vc 3 (.slice ad3 (replicate nd.toNat (default:Int)).length cp4) (out)::e8 b2 [e7 De,.slice pa parts.length pc] 88::e8 b1 [e7 nd,va] 48::I) 12 (Dr 0 C (Ad C) (Dr 1 C (Ab fld135_0 C) (Dr 2 C (As ef) ?_))))))
  refine Dr 3 C (Az (α:=Int) (xs:=out) Ac ef C C Bk om oo) (Dr 4 C (Bo (xs:=out) ef C Bk om oo) (Dr 5 C (Ab fld88_1 C) (Dr 6 C (As ty22) ?_)))
  refine Dr 7 C (Ad C) (Dr 8 C (Az (α:=Int) (xs:=parts) Ac ef C C (Ba hs) om oo) (Dr 9 C (Bo (xs:=parts) ef C (Ba hs) om oo) (Dr 10 C (Rad C C) (Dr 11 C (Az (α:=Int) (xs:=out) Ac ef C C Bk om oo) (C0 kr ?_)))))
  refine Ae 12 C (Cx (α:=Int) (xs:=out) (e:=3) (new:=(e_ out ((e_ es k).u))+(e_ parts k)) ef C C C om oo am) ?_
  rintro _ _ ⟨rfl,rfl⟩
  refine C1 kr ?_
  refine Aj (Aq (S8 8 9 1 5 7 14 15 16 C C C C C C C C) (Bl mixed (Bt (e8 b5 [e7 ((e_ es k).u),e7 ((e_ es k).v)] 135::vc 3 (.slice ad3 (replicate nd.toNat (default:Int)).length cp4) (List.set out ((e_ es k).u).toNat ((e_ out ((e_ es k).u))+(e_ parts k)))::e8 b2 [e7 De,.slice pa parts.length pc] 88::e8 b1 [e7 nd,va] 48::I) 20 (Dr 0 C (Ad C) (Dr 1 C (Ab fld135_1 C) (Dr 2 C (As ef) ?_))))))
  refine Dr 3 C (Az (α:=Int) (xs:=List.set out ((e_ es k).u).toNat ((e_ out ((e_ es k).u))+(e_ parts k))) Ac ef C C Bk om oo) (Dr 4 C (Bo (xs:=List.set out ((e_ es k).u).toNat ((e_ out ((e_ es k).u))+(e_ parts k))) ef C Bk om oo) ?_)
  rw [C8 out _ _ _ om om om,if_neg (show ¬(e_ es k).u=(e_ es k).v by omega)]
  refine Dr 5 C (Ad C) (Dr 6 C (Ad C) (Dr 7 C (Az (α:=Int) (xs:=ws) Ac ef C C (Ba hw) om oo) (Dr 8 C (Bo (xs:=ws) ef C (Ba hw) om oo) ?_)))
  rw [hw1 k om]
  refine Dr 9 C (Ab fld88_0 C) (Dr 10 C (As ef) ?_)
  refine Dr 11 C (Em C C (by unfold InR;omega)) ?_
  rw [Int.one_mul]
  refine Dr 12 C (Ab fld88_1 C) (Dr 13 C (As ty22) ?_)
  refine Dr 14 C (Ad C) (Dr 15 C (Az (α:=Int) (xs:=parts) Ac ef C C (Ba hs) om oo) (Dr 16 C (Bo (xs:=parts) ef C (Ba hs) om oo) (Dr 17 C (Rsu C C) (Dr 18 C (Rad C C) (Dr 19 C (Az (α:=Int) (xs:=List.set out ((e_ es k).u).toNat ((e_ out ((e_ es k).u))+(e_ parts k))) Ac ef C C Bk om oo) (C0 kr ?_))))))
  refine Ae 20 C (Cx (α:=Int) (xs:=List.set out ((e_ es k).u).toNat ((e_ out ((e_ es k).u))+(e_ parts k))) (e:=3) (new:=(e_ out (e_ es k).v)+(De - (e_ parts k))) ef C C C om oo am) ?_
  rintro _ _ ⟨rfl,rfl⟩
  refine C1 kr ?_
  exact Ak (Aj (Aq (S6 1 5 7 14 15 16 C C C C C C) (Ax (Gr (Rad C C) (Gm C (Bi (B5 ((k+1),(List.set (List.set out ((e_ es k).u).toNat ((e_ out ((e_ es k).u))+(e_ parts k))) ((e_ es k).v).toNat ((e_ out (e_ es k).v)+(De - (e_ parts k))))) (by dsimp only;exact ⟨om,(by rw [List.length_set,List.length_set];exact hol),(sums_next hol om om hsv)⟩))))))))
 ·refine Bv (Al (Al (A5 (Aj (Ai (Gm C (Ga C (Af (A2 ?_)))))))))
  have hcl3:(replicate nd.toNat (default:Int)).length=out.length:=by rw [List.length_replicate,hol]
  have hke:k=es.length:=by omega
  subst hke
  exact A6 C C (vc 3 (.slice ad3 out.length cp4) out::I) (by rw [←hcl3];exact B7) ⟨ad3,cp4,out,by rw [←hcl3],⟨by omega,λv h0 h1=>hsv v h0 om⟩,rfl⟩
variable {κ:Ctx}{I:List Item}
set_option maxHeartbeats 1000000 in
theorem Loads19_ok{nd:Int}{va:Value}{es:List Pt}{pa:Option Addr}{pc:Nat}{parts:List Int}{Nu De:Int}(hl:Sl κ I va es)(hs:Sl κ I (.slice pa parts.length pc) parts)(hG:GrOk nd es)(hP:SplitP nd Nu De es parts)(hD:1<=De/\De<=64):eu prog κ 202 [.agg #[e7 nd,va],.agg #[e7 De,.slice pa parts.length pc]] I (λr J=>∃a c out,r = .tuple #[.slice a (out:List Int).length c,e7 0]/\((out.length:Int)=nd/\∀v:Int,0<=v->v<nd->e_ out v=loadS es De parts v)/\J=vc 3 (.slice a out.length c) out::I):=by
 have hrng:=hG.rng
 have hm:=edges_le hG
 have hpe:=hP.len
 have hr:∀i:Nat,i<parts.length->0<=e_ parts i/\e_ parts i<=De:=λi hi=>hP.rng i om
 refine Ce2 Tryz.func202 C C ?_
 refine Ai (Ge1 (A9 (cs:=[_,_]) C C C) λb1=>Ge1 (A9 (cs:=[_,_]) C C C) λb2=>Ga C (Ga C (Af (Ap (Ai (Gl2 ty48 ?_))))))
 refine G.e (Ah call30 C C (Check03G_ok (nd:=nd) (Ba hl))) ?_
 rintro _ _ ⟨_,_,⟨rfl,rfl⟩,rfl,rfl⟩
 refine Ga C (Af (Ai (Gm C (Gr (Br C C) (Af (A8 C (λc10=>?_) (λc10=>?_)))))))
 ·exact absurd (checkG_ok.2 hG) c10
 ·refine Ay (Aj (Ap (Ap (Bl mixed (Bt (e8 b2 [e7 De,.slice pa parts.length pc] 88::e8 b1 [e7 nd,va] 48::I) 5 (Dr 0 C (Bd (vs:=[_,_]) ty48) ?_))))))
  refine Dr 2 C (Bd (vs:=[_,_]) ty88) ?_
  refine Ds1 1 (Sc2 C (Ah call117 C C (Ones19_ok (nd:=nd) (Ba hl) om)) λad3 cp4=>?_)
  refine Ds1 3 (Se C (Ah call116 C C (Right19_ok (parts:=parts) (ws:=(replicate es.length (1:Int))) (De:=De) Bk (Ba hs) hD hr (λi hi=>ones_at (by simpa using hi)) (by rw [List.length_replicate];omega) (by rw [List.length_replicate];omega))) ?_)
  rintro _ _ ⟨_,_,⟨rfl,rfl⟩,rfl,rfl⟩
  refine ⟨A1,?_⟩
  refine Dr 4 C (B4 C) (Dz (Aj (Aq (S3 16 3 2 C C C) (C2 C (Ay (Aj (Ap (Bl mixed (Bt (vc 3 (.slice ad3 (replicate es.length (1:Int)).length cp4) ((replicate es.length (1:Int)))::e8 b2 [e7 De,.slice pa parts.length pc] 88::e8 b1 [e7 nd,va] 48::I) 7 (Dr 0 C (Bd (vs:=[_,_]) ty48) ?_))))))))))
  refine Dr 1 C (Bd (vs:=[_,_]) ty48) ?_
  refine Dr 3 C (Bd (vs:=[_,_]) ty88) ?_
  refine Ds1 2 (Sc2 C (Ah call117 C C (Ones19_ok (nd:=nd) (Ba hl) om)) λad5 cp6=>?_)
  refine Ds1 4 (Se C (Ah call246 C C (Sums19_ok (nd:=nd) (parts:=parts) (ws:=(replicate es.length (1:Int))) (De:=De) (Ba hl) Bk (Ba hs) hG hD hr (λi hi=>ones_at (by simpa using hi)) (by rw [List.length_replicate];omega) List.length_replicate hm)) ?_)
  rintro _ _ ⟨_,_,⟨ad7,cp8,lo,rfl,⟨hlo1,hlo2⟩,rfl⟩,rfl,rfl⟩
  refine ⟨A1,?_⟩
  exact Dr 5 C (Bb C) (Dr 6 C (Bb C) (Dz (Aj (A2 (Cu C C C (vc 3 (.slice ad7 lo.length cp8) lo::I) B7 ⟨ad7,cp8,lo,rfl,⟨hlo1,hlo2⟩,rfl⟩)))))
set_option maxHeartbeats 1000000 in
theorem Bound19_ok{nd:Int}{va:Value}{es:List Pt}{pa:Option Addr}{pc:Nat}{parts:List Int}{Nu De:Int}(hl:Sl κ I va es)(hs:Sl κ I (.slice pa parts.length pc) parts)(hG:GrOk nd es)(hP:SplitP nd Nu De es parts)(hD:1<=De/\De<=64)(hN:0<=Nu/\Nu<=2016):eu prog κ 118 [.agg #[e7 nd,va],.agg #[e7 De,.slice pa parts.length pc]] I (λr J=>∃m:Int,r = .tuple #[.agg #[e7 (mkF m De).num,e7 (mkF m De).den],e7 0]/\(0<=m/\m<=Nu)/\I=J):=by
 have hrng:=hG.rng
 have hm:=edges_le hG
 have hpe:=hP.len
 have hr:∀i:Nat,i<parts.length->0<=e_ parts i/\e_ parts i<=De:=λi hi=>hP.rng i om
 refine Ce2 Tryz.func118 C C ?_
 refine Ai (Ge1 (A9 (cs:=[_,_]) C C C) λb1=>Ge1 (A9 (cs:=[_,_]) C C C) λb2=>Ge1 (Au ty40 C) λb3=>Ga C (Af (Ai (Gl2 ty48 ?_))))
 refine Gl2 ty88 ?_
 refine G.e (Ah call202 C C (Loads19_ok (nd:=nd) (parts:=parts) (De:=De) (Ba hl) (Ba hs) hG hP hD)) ?_
 rintro _ _ ⟨_,_,⟨ad4,cp5,lo,rfl,⟨hlo1,hlo2⟩,rfl⟩,rfl,rfl⟩
 refine Gm C (Gr (Aw C C) (Gr (Aw C C) (Ga C (Ga C (Af (Aq (S4 7 6 4 3 C C C C) (Ap (Ai (Gm C (Gr (Br C C) (Af (A8 C (λc18=>?_) (λc18=>?_)))))))))))))
 ·exfalso;omega
 ·refine Ay (Aj (Ai (Ga C (Af (Ap (Ai (Gm C (Gr (Bs Ac C) (Gm C (Af (A0 (B1 (σ:=Nat×Int) (λs=>([(3,.pointer (some ⟨b2,0,none⟩)),(4,.pointer (some ⟨b3,0,none⟩)),(8,e7 (s.2)),(21,.slice ad4 lo.length cp5),(22,e7 ((lo.length:Nat):Int)),(23,e7 ((s.1:Nat):Int))]:Env)) (λs=>vc 3 (.slice ad4 lo.length cp5) (lo)::e8 b3 [e7 0,e7 0] 40::e8 b2 [e7 De,.slice pa parts.length pc] 88::e8 b1 [e7 nd,va] 48::I) (λs=>(s.1<=lo.length)/\(0<=s.2/\s.2<=Nu)) (λs=>lo.length - s.1) (0,0) (show ((0:Nat)<=lo.length)/\(0<=(0:Int)/\(0:Int)<=Nu) from ⟨om,om⟩) (Aa C (Aa C (Aa Ca (Aa C (Aa C (Aa Ca Bp)))))) (show Fit κ _ (vc 3 (.slice ad4 lo.length cp5) (lo)::e8 b3 [e7 0,e7 0] 40::e8 b2 [e7 De,.slice pa parts.length pc] 88::e8 b1 [e7 nd,va] 48::I) from A1) ?_))))))))))))
  rintro ⟨k,m⟩ hp
  dsimp only at hp ⊢
  obtain ⟨hk,hmn⟩:=hp
  have hlk:=λh:k<lo.length=>hlo2 ((k:Nat):Int) om om
  have hlk2:=λh:k<lo.length=>hP.load ((k:Nat):Int) om om
  refine Ai (Gr (A7 C C) (Af (Ap (A8 C (λc24=>?_) (λc24=>?_)))))
  ·exact Ay (Aj (Ap (A0 (Ai (Gr (Az (α:=Int) (xs:=lo) Ac ef C C Bk om om) (Gr (Bo (xs:=lo) ef C Bk om om) (Ga C (Af (Ax (Gm C (Gm C (Gr (D2 C C) (Ga C (Bi (Ak (Aj (Aq (S6 8 3 4 21 22 23 C C C C C C) (Ax (Gr (Rad C C) (Gm C (Bi (B5 ((k+1),(if m<(e_ lo k) then (e_ lo k) else m)) (by dsimp only;exact ⟨om,(by have h1:=hlk om;have h2:=hlk2 om;first|omega|(split<;>omega))⟩)))))))))))))))))))))))
  ·refine Bv (Al (Al (A5 (Aj (Ai (Gm C (Gf fld88_0 C (Gl ef ?_))))))))
   refine Gc0 (Ah call128 C C (RatOf_ok m De om om)) ?_
   refine Ge0 (Bq ty40) ?_
   exact Ga C (Af (A2 (C3 C ty40 C C mm C I A3 ⟨m,rfl,hmn,rfl⟩)))
theorem cmp_np{a b c d:Int}(h:a*d<=c*b):¬0<cmpF ⟨a,b⟩ ⟨c,d⟩:=by
 unfold cmpF
 simp only
 repeat (first|omega|split)
theorem bound_np{m Nu De:Int}(hm:0<=m/\m<=Nu)(hD:1<=De):¬0<cmpF (mkF m De) ⟨Nu,De⟩:=by
 have h1:=mkF_mul (a:=m) (b:=De) hm.1 om
 have h2:=mkF_den (a:=m) (b:=De) om
 refine cmp_np (a:=(mkF m De).num) (b:=(mkF m De).den) ?_
 rw [←h1,Int.mul_comm Nu]
 exact Int.mul_le_mul_of_nonneg_left hm.2 om
set_option maxHeartbeats 1000000 in
theorem Check19_ok{κ:Ctx}{I:List Item}{nd:Int}{va:Value}{es:List Pt}{sa pa:Option Addr}{sc pc:Nat}{S parts:List Int}{Nu De:Int}(hl:Sl κ I va es)(hS:Sl κ I (.slice sa S.length sc) S)(hs:Sl κ I (.slice pa parts.length pc) parts)(hG:GrOk nd es)(hV:ValidP S nd)(hne:0<nd->S≠[])(hSl:S.length<=64)(hfN:FrV ⟨Nu,De⟩)(hX:densG nd es S=⟨Nu,De⟩)(hP:SplitP nd Nu De es parts)(hD:1<=De/\De<=64)(hN:0<=Nu/\Nu<=2016):eu prog κ 63 [.agg #[e7 nd,va],.agg #[.slice sa S.length sc,e7 Nu,e7 De,e7 De,.slice pa parts.length pc]] I (λr J=>r=e7 0/\I=J):=by
 have hrng:=hG.rng
 have hm:=edges_le hG
 have hpe:=hP.len
 have hr:∀i:Nat,i<parts.length->0<=e_ parts i/\e_ parts i<=De:=λi hi=>hP.rng i om
 refine Ce2 Tryz.func63 C C ?_
 refine Ai (Ge1 (A9 (cs:=[_,_]) C C C) λb1=>Ge1 (A9 (cs:=[_,_,_,_,_]) C C C) λb2=>Ga C (Af (Ap (Ai (Gl2 ty48 ?_)))))
 refine G.e (Ah call30 C C (Check03G_ok (nd:=nd) (Ba hl))) ?_
 rintro _ _ ⟨_,_,⟨rfl,rfl⟩,rfl,rfl⟩
 refine Ga C (Af (Ai (Gm C (Gr (Br C C) (Af (A8 C (λc13=>?_) (λc13=>?_)))))))
 ·exact absurd (checkG_ok.2 hG) c13
 ·refine Ay (Aj (Ap (Ap (Bl mixed (Bt (e8 b2 [.slice sa S.length sc,e7 Nu,e7 De,e7 De,.slice pa parts.length pc] 102::e8 b1 [e7 nd,va] 48::I) 25 (Dr 0 C (Ab fld102_0 C) (Dr 1 C (As ty22) ?_)))))))
  refine Dr 2 C (Ab fld48_0 C) (Dr 3 C (As ef) ?_)
  refine Ds1 4 (Sc0 C (Ah call91 C C (RValid_ok (Ba hS) nd)) ?_)
  refine Dr 5 C (Dp C) (Dr 6 C (Ad C) (Cs (d:=21) C (λg21=>?_) (λg21=>?_)))
  ·exact absurd hV g21
  ·refine Dro 7 C (Ab fld102_0 C) (Dro 8 C (As ty22) ?_)
   refine Dro 9 C (Bs Ac C) (Dro 10 C (Bu C C) (Dro 11 C (Ad C) (Cs (d:=26) C (λg26=>?_) (λg26=>?_))))
   ·refine Dro 12 C (Ab fld48_0 C) (Dro 13 C (As ef) ?_)
    refine Dro 14 C (Bw C C) (Dro 15 C (Ar C C) (Dr 16 C (Ao C C) (Dr 17 C (Ad C) (Cs (d:=32) C (λg32=>?_) (λg32=>?_)))))
    ·exfalso;exact hne om (List.length_eq_zero_iff.1 om)
    ·refine Dro 18 C (Bd (vs:=[_,_]) ty48) ?_
     refine Dro 20 C (Ab fld102_2 C) (Dro 21 C (Bd (vs:=[_,_]) ty88) ?_)
     refine Ds1 19 (Sc2 C (Ah call117 C C (Ones19_ok (nd:=nd) (Ba hl) om)) λad3 cp4=>?_)
     refine Ds1 22 (Se C (Ah call116 C C (Right19_ok (parts:=parts) (ws:=(replicate es.length (1:Int))) (De:=De) Bk (Ba hs) hD hr (λi hi=>ones_at (by simpa using hi)) (by rw [List.length_replicate];omega) (by rw [List.length_replicate];omega))) ?_)
     rintro _ _ ⟨_,_,⟨rfl,rfl⟩,rfl,rfl⟩
     refine ⟨A1,?_⟩
     refine Dro 23 C (B4 C) (Dr 24 C (Ao C C) (Dz (Aj (Aq (S3 39 3 2 C C C) (C2 C (Ay (Aj (Ai (Gl2 ty48 ?_)))))))))
     refine Gf fld102_0 C (Gl ty22 ?_)
     refine Gc0 (Ah call73 C C (Density03_ok (nd:=nd) (Ba hl) (Ba hS) om om)) ?_
     refine Gm C (Gr (Aw C C) (Gr (Aw C C) (Ge1 (Au ty40 C) λb5=>Ge0 (Bq ty40) ?_)))
     refine Ga C (Af (Ai (Gl2 ty48 ?_)))
     have hfX:FrV (densG nd es S):=by rw [hX];exact hfN
     refine Gf fld102_2 C (Gl2 ty88 ?_)
     refine G.e (Ah call118 C C (Bound19_ok (nd:=nd) (parts:=parts) (De:=De) (Ba hl) (Ba hs) hG hP hD hN)) ?_
     rintro _ _ ⟨_,_,⟨bm,rfl,hbm,rfl⟩,rfl,rfl⟩
     refine Gm C (Gr (Aw C C) (Gr (Aw C C) (Ge1 (Au ty40 C) λb6=>?_)))
     have hfB:FrV (mkF bm De):=mkF_val om om om om
     refine Ge0 (Bq ty40) ?_
     refine Ga C (Af (Aq (S3 8 6 3 C C C) (Ap (Ai (Gf fld102_1 C (Gl2 ty40 ?_))))))
     refine Gl2 ty40 ?_
     refine Gr (E9 (α:=Fr) (a:=(⟨Nu,De⟩:Fr)) (b:=(densG nd es S)) eqt40 C C) (Gm C (Bg (d:=58) C (λg58=>?_) (λg58=>?_)))
     ·exact absurd (by rw [hX]) g58
     ·refine e9 (Bd (vs:=[_,_]) ty40) ?_
      refine e9 (Bd (vs:=[_,_]) ty40) ?_
      refine D5 (Ck C C C) (Ah call66 C C (Cmp01_ok (mkF bm De) (densG nd es S) (by first|assumption|exact hfX|exact hfB) (by first|assumption|exact hfX|exact hfB))) ?_
      rintro _ _ ⟨_,_,⟨rfl,rfl⟩,rfl,rfl⟩
      refine e9 (Bw C C) (Gr (Ao C C) (Af (Aq (S1 63 C) (A8 C (λc63=>?_) (λc63=>?_)))))
      ·exfalso;first|(rw [hX] at c63;exact bound_np hbm hD.1 c63)|(exact bound_np hbm hD.1 (by simpa [hX] using c63))
      ·exact Ay (Aj (Ai (Ga C (Af (A2 (A6 C C I A3 ⟨rfl,rfl⟩))))))
   ·refine Dpo 12 C (Dpo 13 C (Dpo 14 C (Dro 15 C (Ao C C) (Dr 16 C (Ao C C) (Dr 17 C (Ad C) (Dro 18 C (Bd (vs:=[_,_]) ty48) ?_))))))
    refine Dro 20 C (Ab fld102_2 C) (Dro 21 C (Bd (vs:=[_,_]) ty88) ?_)
    refine Ds1 19 (Sc2 C (Ah call117 C C (Ones19_ok (nd:=nd) (Ba hl) om)) λad7 cp8=>?_)
    refine Ds1 22 (Se C (Ah call116 C C (Right19_ok (parts:=parts) (ws:=(replicate es.length (1:Int))) (De:=De) Bk (Ba hs) hD hr (λi hi=>ones_at (by simpa using hi)) (by rw [List.length_replicate];omega) (by rw [List.length_replicate];omega))) ?_)
    rintro _ _ ⟨_,_,⟨rfl,rfl⟩,rfl,rfl⟩
    refine ⟨A1,?_⟩
    refine Dro 23 C (B4 C) (Dr 24 C (Ao C C) (Dz (Aj (Aq (S3 39 3 2 C C C) (C2 C (Ay (Aj (Ai (Gl2 ty48 ?_)))))))))
    refine Gf fld102_0 C (Gl ty22 ?_)
    refine Gc0 (Ah call73 C C (Density03_ok (nd:=nd) (Ba hl) (Ba hS) om om)) ?_
    refine Gm C (Gr (Aw C C) (Gr (Aw C C) (Ge1 (Au ty40 C) λb9=>Ge0 (Bq ty40) ?_)))
    refine Ga C (Af (Ai (Gl2 ty48 ?_)))
    have hfX:FrV (densG nd es S):=by rw [hX];exact hfN
    refine Gf fld102_2 C (Gl2 ty88 ?_)
    refine G.e (Ah call118 C C (Bound19_ok (nd:=nd) (parts:=parts) (De:=De) (Ba hl) (Ba hs) hG hP hD hN)) ?_
    rintro _ _ ⟨_,_,⟨bm,rfl,hbm,rfl⟩,rfl,rfl⟩
    refine Gm C (Gr (Aw C C) (Gr (Aw C C) (Ge1 (Au ty40 C) λb10=>?_)))
    have hfB:FrV (mkF bm De):=mkF_val om om om om
    refine Ge0 (Bq ty40) ?_
    refine Ga C (Af (Aq (S3 8 6 3 C C C) (Ap (Ai (Gf fld102_1 C (Gl2 ty40 ?_))))))
    refine Gl2 ty40 ?_
    refine Gr (E9 (α:=Fr) (a:=(⟨Nu,De⟩:Fr)) (b:=(densG nd es S)) eqt40 C C) (Gm C (Bg (d:=58) C (λg58=>?_) (λg58=>?_)))
    ·exact absurd (by rw [hX]) g58
    ·refine e9 (Bd (vs:=[_,_]) ty40) ?_
     refine e9 (Bd (vs:=[_,_]) ty40) ?_
     refine D5 (Ck C C C) (Ah call66 C C (Cmp01_ok (mkF bm De) (densG nd es S) (by first|assumption|exact hfX|exact hfB) (by first|assumption|exact hfX|exact hfB))) ?_
     rintro _ _ ⟨_,_,⟨rfl,rfl⟩,rfl,rfl⟩
     refine e9 (Bw C C) (Gr (Ao C C) (Af (Aq (S1 63 C) (A8 C (λc63=>?_) (λc63=>?_)))))
     ·exfalso;first|(rw [hX] at c63;exact bound_np hbm hD.1 c63)|(exact bound_np hbm hD.1 (by simpa [hX] using c63))
     ·exact Ay (Aj (Ai (Ga C (Af (A2 (A6 C C I A3 ⟨rfl,rfl⟩))))))
theorem nat_frac{a b x y:Nat}(hb:0<b)(hy:0<y)(h:a*y=x*b):a / a.gcd b=x / x.gcd y/\b / a.gcd b=y / x.gcd y:=by
 have hg:=Nat.gcd_pos_of_pos_right a hb
 have hk:=Nat.gcd_pos_of_pos_right x hy
 have c1:=Nat.coprime_div_gcd_div_gcd hg
 have c2:=Nat.coprime_div_gcd_div_gcd hk
 have e1:=Nat.div_mul_cancel (Nat.gcd_dvd_left a b)
 have e2:=Nat.div_mul_cancel (Nat.gcd_dvd_right a b)
 have e3:=Nat.div_mul_cancel (Nat.gcd_dvd_left x y)
 have e4:=Nat.div_mul_cancel (Nat.gcd_dvd_right x y)
 generalize a.gcd b=g at hg c1 e1 e2 ⊢
 generalize x.gcd y=k at hk c2 e3 e4 ⊢
 generalize a / g=a1 at c1 e1 ⊢
 generalize b / g=b1 at c1 e2 ⊢
 generalize x / k=x1 at c2 e3 ⊢
 generalize y / k=y1 at c2 e4 ⊢
 subst e1 e2 e3 e4
 have h2:a1*y1=x1*b1:=by
  refine Nat.eq_of_mul_eq_mul_right (Nat.mul_pos hg hk) ?_
  have l:a1*y1*(g*k)=a1*g*(y1*k):=by ac_rfl
  have r:x1*b1*(g*k)=x1*k*(b1*g):=by ac_rfl
  rw [l,r];exact h
 have d1:b1 ∣ y1:=c1.symm.dvd_of_dvd_mul_left (m:=a1) ⟨x1,by rw [h2,Nat.mul_comm]⟩
 have d2:y1 ∣ b1:=c2.symm.dvd_of_dvd_mul_left (m:=x1) ⟨a1,by rw [←h2,Nat.mul_comm]⟩
 have e:=Nat.dvd_antisymm d1 d2
 subst e
 have hb1:0<b1:=Nat.pos_of_mul_pos_right hb
 exact ⟨Nat.eq_of_mul_eq_mul_right hb1 h2,rfl⟩
theorem mkF_eq{a b x y:Int}(ha:0<=a)(hb:0<b)(hx:0<=x)(hy:0<y)(h:a*y=x*b):mkF a b=mkF x y:=by
 obtain ⟨a,rfl⟩:=Int.eq_ofNat_of_zero_le ha
 obtain ⟨b,rfl⟩:=Int.eq_ofNat_of_zero_le (Int.le_of_lt hb)
 obtain ⟨x,rfl⟩:=Int.eq_ofNat_of_zero_le hx
 obtain ⟨y,rfl⟩:=Int.eq_ofNat_of_zero_le (Int.le_of_lt hy)
 obtain ⟨h1,h2⟩:=nat_frac (a:=a) (b:=b) (x:=x) (y:=y) om om (by exact_mod_cast h)
 unfold mkF gcdI
 simp only [Int.toNat_natCast]
 rw [←Int.natCast_ediv,←Int.natCast_ediv,←Int.natCast_ediv,←Int.natCast_ediv,h1,h2]
theorem inside_bits{nd:Int}{es:List Pt}(hG:GrOk nd es)(B:BitVec 64):((insideN nd es (eo B):Nat):Int)=insE B es:=by
 rw [←indG_len,indG_ref _ (by rw [checkG_ok.2 hG];decide)]
 unfold insE
 congr 2
 refine List.filter_congr λe he=>?_
 have h:=hG.edge e he
 rw [Bool.eq_iff_iff,decide_eq_true_eq,Bool.and_eq_true,Ed,Ed]
 constructor
 ·rintro ⟨h1,h2⟩;exact ⟨h1.2,h2.2⟩
 ·rintro ⟨h1,h2⟩;exact ⟨⟨by omega,h1⟩,by omega,h2⟩
theorem meet_bits{nd:Int}{B:BitVec 64}(hn:nd<=64)(h:subN nd B):(meetL (eo B) (rangeI nd)).length=(eo B).length:=by
 unfold meetL
 rw [List.filter_eq_self.2 λx hx=>?_,ofL_nodup_len (Ee B)]
 have h1:=(mem_ofL _ _).1 hx
 have h2:=(mem_listB.1 h1).1
 have h3:=h x h1
 simp only [decide_eq_true_eq]
 rw [mem_rangeI];omega
theorem best_dens{nd Nu De:Int}{es:List Pt}{B:BitVec 64}(hG:GrOk nd es)(h:BestR nd es Nu De B):densG nd es (eo B)=⟨Nu,De⟩/\ValidP (eo B) nd/\(0<nd->eo B≠[])/\(1<=De/\De<=64)/\(0<=Nu/\Nu<=2016):=by
 have hz:=checkG_ok.2 hG
 by_cases hn:nd=0
 ·obtain ⟨h1,h2,h3⟩:=h.none hz hn
  subst h1 h2 h3
  rw [Df]
  refine ⟨?_,λj hj=>absurd hj (Nat.not_lt_zero _),λh=>by omega,by omega,by omega⟩
  unfold densG
  rw [if_neg (by rw [hz];decide),if_pos (by simp [meetL,ofL])]
 ·have hd:=h.some hz hn
  have hr:=hG.rng
  obtain ⟨x,y,hx,hy,e⟩:=hd.red
  have hne:eo B≠[]:=λe=>by
   have h2:=cntB_pos hd.dens.ne
   unfold cntB at h2
   rw [e] at h2;simp at h2
  refine ⟨?_,ValidP_iff.2 ⟨λv hv=>⟨(mem_listB.1 hv).1,hd.dens.sub v hv⟩,listB_asc B⟩,λ_=>hne,hd.den,hd.num⟩
  have hc:=cntB_pos hd.dens.ne
  have hib:=insE_bd B es
  unfold densG
  rw [if_neg (by rw [hz];decide),meet_bits hr.2 hd.dens.sub,if_neg (λe=>hne (List.length_eq_zero_iff.1 e)),inside_bits hG,e]
  refine mkF_eq hib.1 (show 0<cntB B by omega) hx.1 om ?_
  have h1:=hd.dens.eq
  have h2:=mkF_mul (a:=x) (b:=y) hx.1 om
  rw [←e] at h2
  simp only at h2
  have hD:=hd.den
  have h3:De*(insE B es*y)=De*(x*cntB B):=by
   rw [←Int.mul_assoc,h1,←Int.mul_assoc,h2,Int.mul_assoc,Int.mul_assoc,Int.mul_comm (cntB B)]
  exact Int.eq_of_mul_eq_mul_left om h3
end Go.Sl
/- The densest set as the best of all sets, each once: the greatest set of the greatest density. No Go. No conditions. -/
namespace Go.Sl
end Go.Sl
namespace Go.Sl
open Go.Proofs
set_option maxRecDepth 4000
theorem edges_sq{nd:Int}{es:List Pt}(hG:GrOk nd es):es.length<=nd.toNat*nd.toNat:=by
 have hs:∀e∈es,e∈(List.range nd.toNat).flatMap fun (v:Nat)=>(List.range nd.toNat).map fun (u:Nat)=>(⟨(u:Int),(v:Int)⟩:Pt):=λe he=>by
  have h:=hG.edge e he
  have hr:=hG.rng
  refine List.mem_flatMap.2 ⟨e.v.toNat,List.mem_range.2 om,List.mem_map.2 ⟨e.u.toNat,List.mem_range.2 om,?_⟩⟩
  rw [Pt.ext_iff']
  exact ⟨by show ((e.u.toNat:Nat):Int)=e.u;omega,by show ((e.v.toNat:Nat):Int)=e.v;omega⟩
 have hl:=List.Nodup.length_le_of_subset (asc_nodup hG.asc) hs
 rw [flat_len _ nd.toNat (λv=>by rw [List.length_map,List.length_range])] at hl
 exact hl
theorem edges_7{nd:Int}{es:List Pt}(hG:GrOk nd es)(h7:nd<=7):es.length<=1000:=by
 have h1:=edges_sq hG
 have h2:nd.toNat*nd.toNat<=7*7:=Nat.mul_le_mul om om
 omega
theorem valid_two{u n:Int}(h0:0<=u)(h1:u<n - 1):ValidP [u,n - 1] n:=λj hj=>by
 rcases (show j=0\/j=1 by simp at hj;omega) with rfl|rfl
 ·exact ⟨⟨h0,by show u<n;omega⟩,λh=>by omega⟩
 ·exact ⟨⟨by show 0<=n - 1;omega,by show n - 1<n;omega⟩,λ_=>h1⟩
theorem edge_te{nd y num:Int}{es:List Pt}{S Nl Ol:List Int}{fd:Bool}(hG:GrOk nd es)(h:EdgeR nd es S y fd num Nl Ol)(hy:0<=y):TrussE (trisE nd es) Nl Ol/\y<Nl.length:=by
 obtain ⟨_,e2,e3⟩:=h.some hy
 have hlt:=find_lt hG h.find
 rw [e2,e3]
 refine ⟨?_,hlt⟩
 unfold trussG
 rw [if_neg (by rw [checkG_ok.2 hG];decide)]
 exact trussE (triG hG) (tris_ok hG)
set_option maxHeartbeats 8000000 in
theorem AnswerProves_walk{κ:Ctx}{I:List Item}{la:Option Addr}{ln lc:Nat}{ls:List Int}(hl:Sl κ I (.slice la ln lc) ls)(hT:TabRd κ I 0 tzCells):eu prog κ 9 [.slice la ln lc] I (λr J=>r = .bool true/\I=J):=by
 refine Ce1 Tryz.func9 C C ?_
 refine Ai (Ga C (Af (Ap (Ai (Gm C (Gc0 (Ah call16 C C Few_ok) ?_))))))
 refine Gr (Dp C) (Af (A8 C (λc23=>?_) (λc23=>?_)))
 ·refine Ai (Gc0 (Ah call41 C C (Awake43_ok (Bx hT A3))) ?_)
  exact Ga C (Af (A2 (Am (A6 C C I (by first|exact A3|exact FitW) ⟨rfl,rfl⟩))))
 ·refine Ay (Aj (Ai (Gm C (G.e (Ah call18 C C New_ok) ?_))))
  rintro _ _ ⟨_,_,⟨dk1,rfl,rfl⟩,rfl,rfl⟩
  show G prog κ _ _ _ _ ([(26,.pointer (some ⟨dk1,0,none⟩)),(25,.slice la ln lc),(23,.bool (decide (¬((ln:Int)<=500)))),(22,.bool (decide ((ln:Int)<=500))),(21,.slice la ln lc),(2,.bool false),(0,.slice la ln lc)]:Env) (e8 dk1 [.slice la ln lc,e7 0] 125::I)
  have hi0:(0:Int)<=0:=Int.le_refl _
  refine Ga C (Af (Ai (Gm C (G.e (Ah call42 C C (Some43_at (by repeat (first|exact AtF.head _ _|apply AtF.tail)) (λ_=>Cv hl A3) om  )) ?_))))
  rintro _ _ ⟨_,_,⟨⟨nn2,ad3,cp4,es5,kd6,wd7,mo8,i9⟩,⟨⟨rfl,hHes5,hles5,hnes5⟩,hi9⟩,rfl⟩,rfl,rfl⟩
  show G prog κ _ _ _ _ ([(29,.tuple #[e7 nn2,.slice ad3 es5.length cp4,.agg #[e7 kd6,e7 wd7,e7 mo8]]),(28,.pointer (some ⟨dk1,0,none⟩)),(3,.pointer (some ⟨dk1,0,none⟩)),(26,.pointer (some ⟨dk1,0,none⟩)),(25,.slice la ln lc),(23,.bool (decide (¬((ln:Int)<=500)))),(22,.bool (decide ((ln:Int)<=500))),(21,.slice la ln lc),(2,.bool false),(0,.slice la ln lc)]:Env) (vc 108 (.slice ad3 es5.length cp4) (es5)::e8 dk1 [.slice la ln lc,e7 i9] 125::I)
  have hi9:0<=i9:=hi9
  dsimp only at hHes5
  dsimp only at hles5
  dsimp only at hnes5
  refine Gm C (Gr (Aw C C) (Gr (Aw C C) (Gr (Aw C C) (Ge1 (Au ty31 C) λb10=>Ga C (Ga C (Ge0 (Es3_3 ty31) ?_))))))
  have hH:HistOk nn2 kd6 wd7 mo8 es5:=hHes5
  have hel:es5.length<=19:=by have h9:es5.length<=12:=hles5;omega
  have hn2:2<=nn2/\nn2<=6:=hnes5
  refine Af (Aq (S4 5 4 6 3 C C C C) (Ai (Gm C (G.e (Ah call19 C C (Next_ok (by repeat (first|exact AtF.head _ _|apply AtF.tail)) (Ba hl) om om)) ?_))))
  rintro _ _ ⟨_,_,⟨x11,i12,rfl,hx11,hi12,rfl⟩,rfl,rfl⟩
  show G prog κ _ _ _ _ ([(34,e7 x11),(33,.pointer (some ⟨dk1,0,none⟩)),(5,.slice ad3 es5.length cp4),(4,e7 nn2),(6,.pointer (some ⟨b10,0,none⟩)),(3,.pointer (some ⟨dk1,0,none⟩))]:Env) (e8 b10 [e7 kd6,e7 wd7,e7 mo8] 31::vc 108 (.slice ad3 es5.length cp4) (es5)::e8 dk1 [.slice la ln lc,e7 i12] 125::I)
  refine Ga C ?_
  have htq:0<=x11/\x11<=1048576:=by omega
  refine Af (Ai (Gm C (Gm C (Gl3 ty31 ?_))))
  refine Gm C (G.e (Ah call44 C C (At_ok (nd:=nn2) (kd:=kd6) (wd:=wd7) (mo:=mo8) (tq:=x11) Bk hH hel htq)) ?_)
  rintro _ _ ⟨_,_,⟨ad13,cp14,rfl,rfl⟩,rfl,rfl⟩
  refine Gm C (Gr (Aw C C) (Gr (Aw C C) (Ge1 (Au ty48 C) λb15=>Ge0 (Bq ty48) ?_)))
  refine Ga C (Af (Aq (S7 9 8 7 5 4 6 3 C C C C C C C) (Ai (Gm C (Gm C (Gr (Rsu C C) (G.e (Ah call19 C C (Next_ok (by repeat (first|exact AtF.head _ _|apply AtF.tail)) (Ba hl) om om)) ?_)))))))
  rintro _ _ ⟨_,_,⟨x16,i17,rfl,hx16,hi17,rfl⟩,rfl,rfl⟩
  show G prog κ _ _ _ _ ([(46,e7 x16),(45,e7 (nn2 - 1)),(44,e7 nn2),(43,.pointer (some ⟨dk1,0,none⟩)),(9,e7 0),(8,.pointer (some ⟨b15,0,none⟩)),(7,e7 x11),(5,.slice ad3 es5.length cp4),(4,e7 nn2),(6,.pointer (some ⟨b10,0,none⟩)),(3,.pointer (some ⟨dk1,0,none⟩))]:Env) (e8 b15 [e7 nn2,.slice ad13 (atG kd6 wd7 mo8 es5 x11).length cp14] 48::vc 135 (.slice ad13 (atG kd6 wd7 mo8 es5 x11).length cp14) (atG kd6 wd7 mo8 es5 x11)::e8 b10 [e7 kd6,e7 wd7,e7 mo8] 31::vc 108 (.slice ad3 es5.length cp4) (es5)::e8 dk1 [.slice la ln lc,e7 i17] 125::I)
  refine Gm C (Gr (Rsu C C) (Ga C (Ga C ?_)))
  have huv:0<=x16/\x16<nn2 - 1:=by omega
  have hsv:ValidP [x16,nn2 - 1] nn2:=valid_two huv.1 huv.2
  refine Af (Aq (S9 11 10 9 8 7 5 4 6 3 C C C C C C C C C) (Ai (Gm C (Gm C (Gl3 ty31 ?_)))))
  refine Gm C (Gm C (Gr (Bc (cells:=[_,_,_,_,_,_,_]) ty71 D4 pl71 C C) (G.e (Ah call56 C C (Ask1_ok (nd:=nn2) (kd:=kd6) (wd:=wd7) (mo:=mo8) (tq:=x11) (node:=x16) Bk hH hel htq (Bx hT A3) om)) ?_)))
  rintro _ _ ⟨_,_,⟨ad18,cp19,ad20,cp21,rfl,rfl⟩,rfl,rfl⟩
  refine Gm C (Gr (Aw C C) (Gr (Aw C C) (Ge1 (Au ty90 C) λb22=>Ge0 (Ce (cs:=[_,_,_,_,_,_,_,_,_,_,_]) (vs:=[_,_,_,_,_,_,_,_,_,_,_]) (cs':=[_,_,_,_,_,_,_,_,_,_,_]) ty90) ?_)))
  refine Ga C (Af (Aq (S11 13 12 11 10 9 8 7 5 4 6 3 C C C C C C C C C C C) (W.cut (σ:=Nat×Int×Int×(Option Addr)×Nat×(Option Addr)×Nat×(Option Addr)×Nat) (λs=>([(4,e7 nn2),(5,.slice ad3 es5.length cp4),(6,.pointer (some ⟨b10,0,none⟩)),(7,e7 x11),(8,.pointer (some ⟨b15,0,none⟩)),(9,e7 0),(10,e7 x16),(11,e7 (nn2 - 1)),(12,.pointer (some ⟨b22,0,none⟩)),(13,e7 0),(14,.pointer (some ⟨s.1,0,none⟩)),(15,e7 0)]:Env)) (λs=>e8 s.1 [.bool ((decide (0<(((commG nn2 (atG kd6 wd7 mo8 es5 x11) x16 s.2.1).length:Nat):Int)))),e7 0,e7 0,.slice s.2.2.2.1 (commG nn2 (atG kd6 wd7 mo8 es5 x11) x16 s.2.1).length s.2.2.2.2.1,e7 0,e7 0,.slice none 0 0,.slice s.2.2.2.2.2.2.2.1 (coreO nn2 (atG kd6 wd7 mo8 es5 x11)).length s.2.2.2.2.2.2.2.2,.slice s.2.2.2.2.2.1 (coreN nn2 (atG kd6 wd7 mo8 es5 x11)).length s.2.2.2.2.2.2.1,e7 0,.slice none 0 0] 90::vc 3 (.slice s.2.2.2.1 (commG nn2 (atG kd6 wd7 mo8 es5 x11) x16 s.2.1).length s.2.2.2.2.1) (commG nn2 (atG kd6 wd7 mo8 es5 x11) x16 s.2.1)::vc 3 (.slice s.2.2.2.2.2.1 (coreN nn2 (atG kd6 wd7 mo8 es5 x11)).length s.2.2.2.2.2.2.1) (coreN nn2 (atG kd6 wd7 mo8 es5 x11))::vc 3 (.slice s.2.2.2.2.2.2.2.1 (coreO nn2 (atG kd6 wd7 mo8 es5 x11)).length s.2.2.2.2.2.2.2.2) (coreO nn2 (atG kd6 wd7 mo8 es5 x11))::e8 b22 [.bool true,e7 (e_ (coreN nn2 (atG kd6 wd7 mo8 es5 x11)) x16),e7 0,.slice none 0 0,e7 0,e7 0,.slice none 0 0,.slice ad20 (coreO nn2 (atG kd6 wd7 mo8 es5 x11)).length cp21,.slice ad18 (coreN nn2 (atG kd6 wd7 mo8 es5 x11)).length cp19,e7 0,.slice none 0 0] 90::vc 3 (.slice ad18 (coreN nn2 (atG kd6 wd7 mo8 es5 x11)).length cp19) (coreN nn2 (atG kd6 wd7 mo8 es5 x11))::vc 3 (.slice ad20 (coreO nn2 (atG kd6 wd7 mo8 es5 x11)).length cp21) (coreO nn2 (atG kd6 wd7 mo8 es5 x11))::e8 b15 [e7 nn2,.slice ad13 (atG kd6 wd7 mo8 es5 x11).length cp14] 48::vc 135 (.slice ad13 (atG kd6 wd7 mo8 es5 x11).length cp14) (atG kd6 wd7 mo8 es5 x11)::e8 b10 [e7 kd6,e7 wd7,e7 mo8] 31::vc 108 (.slice ad3 es5.length cp4) (es5)::e8 dk1 [.slice la ln lc,e7 (s.2.2.1)] 125::I) (λs=>(0<=s.2.1/\s.2.1<3)) ?_ ?_)))
  ·refine Bl mixed (Bt (e8 b22 [.bool true,e7 (e_ (coreN nn2 (atG kd6 wd7 mo8 es5 x11)) x16),e7 0,.slice none 0 0,e7 0,e7 0,.slice none 0 0,.slice ad20 (coreO nn2 (atG kd6 wd7 mo8 es5 x11)).length cp21,.slice ad18 (coreN nn2 (atG kd6 wd7 mo8 es5 x11)).length cp19,e7 0,.slice none 0 0] 90::vc 3 (.slice ad18 (coreN nn2 (atG kd6 wd7 mo8 es5 x11)).length cp19) (coreN nn2 (atG kd6 wd7 mo8 es5 x11))::vc 3 (.slice ad20 (coreO nn2 (atG kd6 wd7 mo8 es5 x11)).length cp21) (coreO nn2 (atG kd6 wd7 mo8 es5 x11))::e8 b15 [e7 nn2,.slice ad13 (atG kd6 wd7 mo8 es5 x11).length cp14] 48::vc 135 (.slice ad13 (atG kd6 wd7 mo8 es5 x11).length cp14) (atG kd6 wd7 mo8 es5 x11)::e8 b10 [e7 kd6,e7 wd7,e7 mo8] 31::vc 108 (.slice ad3 es5.length cp4) (es5)::I) 13 (Dr 0 C (Ad C) (Dr 1 C (Ad C) (Dr 2 C (Bd (vs:=[_,_,_]) ty31) ?_))))
   refine Dr 3 C (Ad C) (Dr 4 C (Ad C) (Dr 6 C (Ad C) (Cj (rs:=[5,12]) kr C C (Dg ?_ (Ds ?_)))))
   ·refine Se C (Ah call19 C C (Next_ok (by repeat (first|exact AtF.head _ _|apply AtF.tail)) (Ba hl) om om)) ?_
    rintro _ _ ⟨_,_,⟨x23,i24,rfl,hx23,hi24,rfl⟩,rfl,rfl⟩
    refine ⟨A1,?_⟩
    show D prog κ _ _ _ _ _ _ _ ([(65,e7 x23),(66,e7 x11),(64,.pointer (some ⟨dk1,0,none⟩)),(63,e7 x16),(62,.agg #[e7 kd6,e7 wd7,e7 mo8]),(61,.slice ad3 es5.length cp4),(60,e7 nn2),(13,e7 0),(12,.pointer (some ⟨b22,0,none⟩)),(11,e7 (nn2 - 1)),(10,e7 x16),(9,e7 0),(8,.pointer (some ⟨b15,0,none⟩)),(7,e7 x11),(5,.slice ad3 es5.length cp4),(4,e7 nn2),(6,.pointer (some ⟨b10,0,none⟩)),(3,.pointer (some ⟨dk1,0,none⟩))]:Env) (e8 b22 [.bool true,e7 (e_ (coreN nn2 (atG kd6 wd7 mo8 es5 x11)) x16),e7 0,.slice none 0 0,e7 0,e7 0,.slice none 0 0,.slice ad20 (coreO nn2 (atG kd6 wd7 mo8 es5 x11)).length cp21,.slice ad18 (coreN nn2 (atG kd6 wd7 mo8 es5 x11)).length cp19,e7 0,.slice none 0 0] 90::vc 3 (.slice ad18 (coreN nn2 (atG kd6 wd7 mo8 es5 x11)).length cp19) (coreN nn2 (atG kd6 wd7 mo8 es5 x11))::vc 3 (.slice ad20 (coreO nn2 (atG kd6 wd7 mo8 es5 x11)).length cp21) (coreO nn2 (atG kd6 wd7 mo8 es5 x11))::e8 b15 [e7 nn2,.slice ad13 (atG kd6 wd7 mo8 es5 x11).length cp14] 48::vc 135 (.slice ad13 (atG kd6 wd7 mo8 es5 x11).length cp14) (atG kd6 wd7 mo8 es5 x11)::e8 b10 [e7 kd6,e7 wd7,e7 mo8] 31::vc 108 (.slice ad3 es5.length cp4) (es5)::e8 dk1 [.slice la ln lc,e7 i24] 125::I)
    refine Dr 7 C (Bc (cells:=[_,_,_,_,_,_,_]) ty71 D4 pl71 C C) (Cj (rs:=[8,12]) kr C C (Dg ?_ (Ds ?_)))
    ·refine Se C (Ah call56 C C (Ask2_ok (nd:=nn2) (kd:=kd6) (wd:=wd7) (mo:=mo8) (tq:=x11) (node:=x16) (lv:=x23) Bk hH hel htq (Bx hT A3) om om)) ?_
     rintro _ _ ⟨_,_,⟨ad25,cp26,ad27,cp28,ad29,cp30,rfl,rfl⟩,rfl,rfl⟩
     refine ⟨A1,?_⟩
     refine Dr 9 C (Ad C) (Dr 10 C (Aw C C) (Cj (rs:=[11,12]) kr C C (Dg ?_ (Ds ?_))))
     ·refine Sr C (Aw C C) A1 ?_
      refine Ds1 12 (Se1 C (Au ty90 C) λb31=>?_)
      refine C0 kr ?_
      refine Ae 13 C (Ce (cs:=[_,_,_,_,_,_,_,_,_,_,_]) (vs:=[_,_,_,_,_,_,_,_,_,_,_]) (cs':=[_,_,_,_,_,_,_,_,_,_,_]) ty90) ?_
      rintro _ _ ⟨rfl,rfl⟩
      refine E4 (i:=14) kr C (Cg C) C C (Bb C) ?_
      refine C1 kr ?_
      exact C9 ((b31),(x23),(i24),(ad29),(cp30),(ad25),(cp26),(ad27),(cp28)) (by dsimp only;exact om)
     ·refine Se1 C (Au ty90 C) λb32=>?_
      refine Cj (rs:=[11,13]) kr C C (Dg ?_ (Ds ?_))
      ·refine Sr C (Aw C C) A1 ?_
       refine C0 kr ?_
       refine Ae 13 C (Ce (cs:=[_,_,_,_,_,_,_,_,_,_,_]) (vs:=[_,_,_,_,_,_,_,_,_,_,_]) (cs':=[_,_,_,_,_,_,_,_,_,_,_]) ty90) ?_
       rintro _ _ ⟨rfl,rfl⟩
       refine E4 (i:=14) kr C (Cg C) C C (Bb C) ?_
       refine C1 kr ?_
       exact C9 ((b32),(x23),(i24),(ad29),(cp30),(ad25),(cp26),(ad27),(cp28)) (by dsimp only;exact om)
      ·refine Se0 C (Ce (cs:=[_,_,_,_,_,_,_,_,_,_,_]) (vs:=[_,_,_,_,_,_,_,_,_,_,_]) (cs':=[_,_,_,_,_,_,_,_,_,_,_]) ty90) ?_
       refine Ds1 11 (Sr C (Aw C C) A1 ?_)
       refine Ds1 14 (Sr C (Bb C) A1 ?_)
       exact Dz (C9 ((b32),(x23),(i24),(ad29),(cp30),(ad25),(cp26),(ad27),(cp28)) (by dsimp only;exact om))
    ·refine Se1 C (Au ty90 C) λb33=>?_
     refine Ds1 8 (Se C (Ah call56 C C (Ask2_ok (nd:=nn2) (kd:=kd6) (wd:=wd7) (mo:=mo8) (tq:=x11) (node:=x16) (lv:=x23) Bk hH hel htq (Bx hT A3) om om)) ?_)
     rintro _ _ ⟨_,_,⟨ad34,cp35,ad36,cp37,ad38,cp39,rfl,rfl⟩,rfl,rfl⟩
     refine ⟨A1,?_⟩
     refine Dr 9 C (Ad C) (Dr 10 C (Aw C C) (Cj (rs:=[11,13]) kr C C (Dg ?_ (Ds ?_))))
     ·refine Sr C (Aw C C) A1 ?_
      refine C0 kr ?_
      refine Ae 13 C (Ce (cs:=[_,_,_,_,_,_,_,_,_,_,_]) (vs:=[_,_,_,_,_,_,_,_,_,_,_]) (cs':=[_,_,_,_,_,_,_,_,_,_,_]) ty90) ?_
      rintro _ _ ⟨rfl,rfl⟩
      refine E4 (i:=14) kr C (Cg C) C C (Bb C) ?_
      refine C1 kr ?_
      exact C9 ((b33),(x23),(i24),(ad38),(cp39),(ad34),(cp35),(ad36),(cp37)) (by dsimp only;exact om)
     ·refine Se0 C (Ce (cs:=[_,_,_,_,_,_,_,_,_,_,_]) (vs:=[_,_,_,_,_,_,_,_,_,_,_]) (cs':=[_,_,_,_,_,_,_,_,_,_,_]) ty90) ?_
      refine Ds1 11 (Sr C (Aw C C) A1 ?_)
      refine Ds1 14 (Sr C (Bb C) A1 ?_)
      exact Dz (C9 ((b33),(x23),(i24),(ad38),(cp39),(ad34),(cp35),(ad36),(cp37)) (by dsimp only;exact om))
   ·refine Se1 C (Au ty90 C) λb40=>?_
    refine Ds1 5 (Se C (Ah call19 C C (Next_ok (by repeat (first|exact AtF.head _ _|apply AtF.tail)) (Ba hl) om om)) ?_)
    rintro _ _ ⟨_,_,⟨x41,i42,rfl,hx41,hi42,rfl⟩,rfl,rfl⟩
    refine ⟨A1,?_⟩
    show D prog κ _ _ _ _ _ _ _ ([(65,e7 x41),(14,.pointer (some ⟨b40,0,none⟩)),(66,e7 x11),(64,.pointer (some ⟨dk1,0,none⟩)),(63,e7 x16),(62,.agg #[e7 kd6,e7 wd7,e7 mo8]),(61,.slice ad3 es5.length cp4),(60,e7 nn2),(13,e7 0),(12,.pointer (some ⟨b22,0,none⟩)),(11,e7 (nn2 - 1)),(10,e7 x16),(9,e7 0),(8,.pointer (some ⟨b15,0,none⟩)),(7,e7 x11),(5,.slice ad3 es5.length cp4),(4,e7 nn2),(6,.pointer (some ⟨b10,0,none⟩)),(3,.pointer (some ⟨dk1,0,none⟩))]:Env) (e8 b40 [.bool false,e7 0,e7 0,.slice none 0 0,e7 0,e7 0,.slice none 0 0,.slice none 0 0,.slice none 0 0,e7 0,.slice none 0 0] 90::e8 b22 [.bool true,e7 (e_ (coreN nn2 (atG kd6 wd7 mo8 es5 x11)) x16),e7 0,.slice none 0 0,e7 0,e7 0,.slice none 0 0,.slice ad20 (coreO nn2 (atG kd6 wd7 mo8 es5 x11)).length cp21,.slice ad18 (coreN nn2 (atG kd6 wd7 mo8 es5 x11)).length cp19,e7 0,.slice none 0 0] 90::vc 3 (.slice ad18 (coreN nn2 (atG kd6 wd7 mo8 es5 x11)).length cp19) (coreN nn2 (atG kd6 wd7 mo8 es5 x11))::vc 3 (.slice ad20 (coreO nn2 (atG kd6 wd7 mo8 es5 x11)).length cp21) (coreO nn2 (atG kd6 wd7 mo8 es5 x11))::e8 b15 [e7 nn2,.slice ad13 (atG kd6 wd7 mo8 es5 x11).length cp14] 48::vc 135 (.slice ad13 (atG kd6 wd7 mo8 es5 x11).length cp14) (atG kd6 wd7 mo8 es5 x11)::e8 b10 [e7 kd6,e7 wd7,e7 mo8] 31::vc 108 (.slice ad3 es5.length cp4) (es5)::e8 dk1 [.slice la ln lc,e7 i42] 125::I)
    refine Dr 7 C (Bc (cells:=[_,_,_,_,_,_,_]) ty71 D4 pl71 C C) (Ds1 8 (Se C (Ah call56 C C (Ask2_ok (nd:=nn2) (kd:=kd6) (wd:=wd7) (mo:=mo8) (tq:=x11) (node:=x16) (lv:=x41) Bk hH hel htq (Bx hT A3) om om)) ?_))
    rintro _ _ ⟨_,_,⟨ad43,cp44,ad45,cp46,ad47,cp48,rfl,rfl⟩,rfl,rfl⟩
    refine ⟨A1,?_⟩
    refine Dr 9 C (Ad C) (Dr 10 C (Aw C C) (Cj (rs:=[11,13]) kr C C (Dg ?_ (Ds ?_))))
    ·refine Sr C (Aw C C) A1 ?_
     refine C0 kr ?_
     refine Ae 13 C (Ce (cs:=[_,_,_,_,_,_,_,_,_,_,_]) (vs:=[_,_,_,_,_,_,_,_,_,_,_]) (cs':=[_,_,_,_,_,_,_,_,_,_,_]) ty90) ?_
     rintro _ _ ⟨rfl,rfl⟩
     refine E4 (i:=14) kr C (Cg C) C C (Bb C) ?_
     refine C1 kr ?_
     exact C9 ((b40),(x41),(i42),(ad47),(cp48),(ad43),(cp44),(ad45),(cp46)) (by dsimp only;exact om)
    ·refine Se0 C (Ce (cs:=[_,_,_,_,_,_,_,_,_,_,_]) (vs:=[_,_,_,_,_,_,_,_,_,_,_]) (cs':=[_,_,_,_,_,_,_,_,_,_,_]) ty90) ?_
     refine Ds1 11 (Sr C (Aw C C) A1 ?_)
     refine Ds1 14 (Sr C (Bb C) A1 ?_)
     exact Dz (C9 ((b40),(x41),(i42),(ad47),(cp48),(ad43),(cp44),(ad45),(cp46)) (by dsimp only;exact om))
  ·rintro ⟨bq,zl,iq,ma,mc,na,nc,oa,oc⟩ hp
   have hzl:(0<=zl/\zl<3):=hp
   show W prog κ 203 _ _ ([(4,e7 nn2),(5,.slice ad3 es5.length cp4),(6,.pointer (some ⟨b10,0,none⟩)),(7,e7 x11),(8,.pointer (some ⟨b15,0,none⟩)),(9,e7 0),(10,e7 x16),(11,e7 (nn2 - 1)),(12,.pointer (some ⟨b22,0,none⟩)),(13,e7 0),(14,.pointer (some ⟨bq,0,none⟩)),(15,e7 0)]:Env) (e8 bq [.bool ((decide (0<(((commG nn2 (atG kd6 wd7 mo8 es5 x11) x16 zl).length:Nat):Int)))),e7 0,e7 0,.slice ma (commG nn2 (atG kd6 wd7 mo8 es5 x11) x16 zl).length mc,e7 0,e7 0,.slice none 0 0,.slice oa (coreO nn2 (atG kd6 wd7 mo8 es5 x11)).length oc,.slice na (coreN nn2 (atG kd6 wd7 mo8 es5 x11)).length nc,e7 0,.slice none 0 0] 90::vc 3 (.slice ma (commG nn2 (atG kd6 wd7 mo8 es5 x11) x16 zl).length mc) (commG nn2 (atG kd6 wd7 mo8 es5 x11) x16 zl)::vc 3 (.slice na (coreN nn2 (atG kd6 wd7 mo8 es5 x11)).length nc) (coreN nn2 (atG kd6 wd7 mo8 es5 x11))::vc 3 (.slice oa (coreO nn2 (atG kd6 wd7 mo8 es5 x11)).length oc) (coreO nn2 (atG kd6 wd7 mo8 es5 x11))::e8 b22 [.bool true,e7 (e_ (coreN nn2 (atG kd6 wd7 mo8 es5 x11)) x16),e7 0,.slice none 0 0,e7 0,e7 0,.slice none 0 0,.slice ad20 (coreO nn2 (atG kd6 wd7 mo8 es5 x11)).length cp21,.slice ad18 (coreN nn2 (atG kd6 wd7 mo8 es5 x11)).length cp19,e7 0,.slice none 0 0] 90::vc 3 (.slice ad18 (coreN nn2 (atG kd6 wd7 mo8 es5 x11)).length cp19) (coreN nn2 (atG kd6 wd7 mo8 es5 x11))::vc 3 (.slice ad20 (coreO nn2 (atG kd6 wd7 mo8 es5 x11)).length cp21) (coreO nn2 (atG kd6 wd7 mo8 es5 x11))::e8 b15 [e7 nn2,.slice ad13 (atG kd6 wd7 mo8 es5 x11).length cp14] 48::vc 135 (.slice ad13 (atG kd6 wd7 mo8 es5 x11).length cp14) (atG kd6 wd7 mo8 es5 x11)::e8 b10 [e7 kd6,e7 wd7,e7 mo8] 31::vc 108 (.slice ad3 es5.length cp4) (es5)::e8 dk1 [.slice la ln lc,e7 iq] 125::I)
   refine Ai (Gm C (Gm C (Gl3 ty31 ?_)))
   refine Gm C (Gm C (Ge1 (Cf (α:=Int) (cs:=[_,_]) (xs:=[x16,nn2 - 1]) Ac ef C C dc dc C C C C) λad49=>?_))
   refine Gm C (Gr (Bc (cells:=[_,_,_,_,_,_,_]) ty71 D4 pl71 C C) (G.e (Ah call56 C C (Ask3_ok (nd:=nn2) (kd:=kd6) (wd:=wd7) (mo:=mo8) (tq:=x11) (S:=([x16,nn2 - 1]:List Int)) Bk hH hel htq (Bx hT A3) Bk hsv C)) ?_))
   rintro _ _ ⟨_,_,⟨ye50,fd51,nm52,ad53,cp54,NL55,ad56,cp57,OL58,rfl,hEye50,rfl⟩,rfl,rfl⟩
   refine Gm C (Gr (Aw C C) (Gr (Aw C C) (Ge1 (Au ty90 C) λb59=>Ge0 (Ce (cs:=[_,_,_,_,_,_,_,_,_,_,_]) (vs:=[_,_,_,_,_,_,_,_,_,_,_]) (cs':=[_,_,_,_,_,_,_,_,_,_,_]) ty90) ?_)))
   refine Ga C (Af (Aq (S14 17 16 4 5 6 7 8 9 10 11 12 13 14 15 C C C C C C C C C C C C C C) (Ai (Gm C (Gm C (Gl3 ty31 ?_))))))
   refine Gm C (Gr (Bc (cells:=[_,_,_,_,_,_,_]) ty71 D4 pl71 C C) (G.e (Ah call56 C C (Ask5_ok (nd:=nn2) (kd:=kd6) (wd:=wd7) (mo:=mo8) (tq:=x11) Bk hH hel htq (Bx hT A3))) ?_))
   rintro _ _ ⟨_,_,⟨ad60,cp61,BB62,ad63,cp64,pt65,NN66,DD67,EE68,rfl,⟨hBR,hSB⟩,rfl⟩,rfl,rfl⟩
   refine Gm C (Gr (Aw C C) (Gr (Aw C C) (Ge1 (Au ty90 C) λb69=>Ge0 (Ce (cs:=[_,_,_,_,_,_,_,_,_,_,_]) (vs:=[_,_,_,_,_,_,_,_,_,_,_]) (cs':=[_,_,_,_,_,_,_,_,_,_,_]) ty90) ?_)))
   refine Ga C ?_
   have hGt:=hH.graph x11
   obtain ⟨hED,hSp⟩:=hSB (checkG_ok.2 hGt)
   subst hED
   have hbd:=best_dens hGt hBR
   have hcn:=coreN_lenG hGt
   refine Af (Aq (S13 19 18 17 16 4 8 9 10 11 12 13 14 15 C C C C C C C C C C C C C) (Ap (Ap (Bl mixed (Bt (e8 b69 [.bool true,e7 0,e7 0,.slice ad60 (eo BB62).length cp61,e7 NN66,e7 EE68,.slice none 0 0,.slice none 0 0,.slice none 0 0,e7 EE68,.slice ad63 pt65.length cp64] 90::vc 3 (.slice ad60 (eo BB62).length cp61) (eo BB62)::vc 3 (.slice ad63 pt65.length cp64) (pt65)::e8 b59 [.bool fd51,e7 nm52,e7 0,.slice none 0 0,e7 0,e7 0,.slice none 0 0,.slice ad56 OL58.length cp57,.slice ad53 NL55.length cp54,e7 0,.slice none 0 0] 90::vc 3 (.slice ad53 NL55.length cp54) (NL55)::vc 3 (.slice ad56 OL58.length cp57) (OL58)::vc 3 (.slice ad49 2 2) (([x16,nn2 - 1]:List Int))::e8 bq [.bool ((decide (0<(((commG nn2 (atG kd6 wd7 mo8 es5 x11) x16 zl).length:Nat):Int)))),e7 0,e7 0,.slice ma (commG nn2 (atG kd6 wd7 mo8 es5 x11) x16 zl).length mc,e7 0,e7 0,.slice none 0 0,.slice oa (coreO nn2 (atG kd6 wd7 mo8 es5 x11)).length oc,.slice na (coreN nn2 (atG kd6 wd7 mo8 es5 x11)).length nc,e7 0,.slice none 0 0] 90::vc 3 (.slice ma (commG nn2 (atG kd6 wd7 mo8 es5 x11) x16 zl).length mc) (commG nn2 (atG kd6 wd7 mo8 es5 x11) x16 zl)::vc 3 (.slice na (coreN nn2 (atG kd6 wd7 mo8 es5 x11)).length nc) (coreN nn2 (atG kd6 wd7 mo8 es5 x11))::vc 3 (.slice oa (coreO nn2 (atG kd6 wd7 mo8 es5 x11)).length oc) (coreO nn2 (atG kd6 wd7 mo8 es5 x11))::e8 b22 [.bool true,e7 (e_ (coreN nn2 (atG kd6 wd7 mo8 es5 x11)) x16),e7 0,.slice none 0 0,e7 0,e7 0,.slice none 0 0,.slice ad20 (coreO nn2 (atG kd6 wd7 mo8 es5 x11)).length cp21,.slice ad18 (coreN nn2 (atG kd6 wd7 mo8 es5 x11)).length cp19,e7 0,.slice none 0 0] 90::vc 3 (.slice ad18 (coreN nn2 (atG kd6 wd7 mo8 es5 x11)).length cp19) (coreN nn2 (atG kd6 wd7 mo8 es5 x11))::vc 3 (.slice ad20 (coreO nn2 (atG kd6 wd7 mo8 es5 x11)).length cp21) (coreO nn2 (atG kd6 wd7 mo8 es5 x11))::e8 b15 [e7 nn2,.slice ad13 (atG kd6 wd7 mo8 es5 x11).length cp14] 48::vc 135 (.slice ad13 (atG kd6 wd7 mo8 es5 x11).length cp14) (atG kd6 wd7 mo8 es5 x11)::e8 b10 [e7 kd6,e7 wd7,e7 mo8] 31::vc 108 (.slice ad3 es5.length cp4) (es5)::e8 dk1 [.slice la ln lc,e7 iq] 125::I) 35 (Dr 0 C (Ad C) (Dr 1 C (Br C C) (Dr 2 C (Ad C) (Cs (d:=94) C (λg94=>?_) (λg94=>?_))))))))))
   ·exact absurd rfl g94
   ·refine Dro 3 C (Ad C) (Dro 4 C (Br C C) (Dr 5 C (Ao C C) (Dr 6 C (Ad C) (Cs (d:=98) C (λg98=>?_) (λg98=>?_)))))
    ·exact absurd rfl g98
    ·refine Dro 7 C (Ad C) (Dro 8 C (Br C C) (Dr 9 C (Ao C C) (Dr 10 C (Ad C) (Cs (d:=102) C (λg102=>?_) (λg102=>?_)))))
     ·exact absurd rfl g102
     ·refine Dro 11 C (Ad C) (Dro 12 C (Br C C) (Dr 13 C (Ao C C) (Dr 14 C (Ad C) (Cs (d:=106) C (λg106=>?_) (λg106=>?_)))))
      ·exact absurd rfl g106
      ·refine Dro 15 C (Ad C) (Dro 16 C (Br C C) (Dr 17 C (Ao C C) (Dr 18 C (Ad C) (Cs (d:=110) C (λg110=>?_) (λg110=>?_)))))
       ·exact absurd rfl g110
       ·refine Dro 19 C (Ab fld90_7 C) (Dro 20 C (As ty22) ?_)
        refine Dro 21 C (Bs Ac C) (Dro 22 C (Ad C) (Dro 23 C (Br C C) (Dr 24 C (Ao C C) (Dr 25 C (Ad C) (Cs (d:=117) C (λg117=>?_) (λg117=>?_))))))
        ·exfalso;omega
        ·refine Dro 26 C (Ab fld90_7 C) (Dro 27 C (As ty22) ?_)
         refine Dro 28 C (Ad C) (Dro 29 C (Az (α:=Int) (xs:=coreN nn2 (atG kd6 wd7 mo8 es5 x11)) Ac ef C C Bk om (by first|omega|(have h9:=(hTEf om).2;omega))) (Dro 30 C (Bo (xs:=coreN nn2 (atG kd6 wd7 mo8 es5 x11)) ef C Bk om (by first|omega|(have h9:=(hTEf om).2;omega))) (Dro 31 C (Ab fld90_1 C) (Dro 32 C (As ef) ?_))))
         refine Dro 33 C (Br C C) (Dr 34 C (Ao C C) (Dz (Aj (Aq (S8 126 18 16 8 10 11 12 14 C C C C C C C C) (A8 C (λc126=>?_) (λc126=>?_))))))
         ·exact absurd rfl c126
         ·refine Ay (Aj (Ap (Ai (Gl2 ty48 ?_))))
          refine Gf fld90_7 C (Gl ty22 ?_)
          refine Gf fld90_6 C (Gl ty22 ?_)
          refine G.e (Ah call62 C C (Check10_ok (nd:=nn2) (num:=coreN nn2 (atG kd6 wd7 mo8 es5 x11)) (ord:=coreO nn2 (atG kd6 wd7 mo8 es5 x11)) Bk Bk Bk (hH.graph _) (coreE (hH.graph _)))) ?_
          rintro _ _ ⟨_,_,⟨rfl,rfl⟩,rfl,rfl⟩
          refine Gr (Br C C) (Gm C (Bg (d:=134) C (λg134=>?_) (λg134=>?_)))
          ·exact absurd rfl g134
          ·refine e9 (Bd (vs:=[_,_]) ty48) ?_
           refine e9 (Ab fld90_7 C) (e9 (As ty22) ?_)
           refine e9 (Ab fld90_6 C) (e9 (As ty22) ?_)
           refine D5 (Ck C C C) (Ah call62 C C (Check10_ok (nd:=nn2) (num:=coreN nn2 (atG kd6 wd7 mo8 es5 x11)) (ord:=coreO nn2 (atG kd6 wd7 mo8 es5 x11)) Bk Bk Bk (hH.graph _) (coreE (hH.graph _)))) ?_
           rintro _ _ ⟨_,_,⟨rfl,rfl⟩,rfl,rfl⟩
           refine e9 (Br C C) (Gr (Ao C C) (Gm C (Bg (d:=143) C (λg143=>?_) (λg143=>?_))))
           ·exact absurd rfl g143
           ·refine e9 (Bd (vs:=[_,_]) ty48) ?_
            refine e9 (Ab fld90_3 C) (e9 (As ty22) ?_)
            refine e9 (Ab fld90_4 C) (e9 (Bd (vs:=[_,_]) ty40) ?_)
            refine e9 (Ab fld90_8 C) (e9 (Bd (vs:=[_,_]) ty88) ?_)
            refine e9 (Bc (cells:=[_,_,_,_,_]) ty102 Ec pl102 C C) (D5 (Ck C C C) (Ah call63 C C (Check19_ok (nd:=nn2) (S:=eo BB62) (parts:=pt65) (Nu:=NN66) (De:=EE68) Bk Bk Bk (hH.graph _) hbd.2.1 hbd.2.2.1 (E5 _) (hBR.frv (hH.graph _)) hbd.1 hSp hbd.2.2.2.1 hbd.2.2.2.2)) ?_)
            rintro _ _ ⟨_,_,⟨rfl,rfl⟩,rfl,rfl⟩
            refine e9 (Br C C) (Gr (Ao C C) (Af (Aq (S5 154 16 8 10 11 C C C C C) (A8 C (λc154=>?_) (λc154=>?_)))))
            ·exact absurd rfl c154
            ·refine Ay (Aj (Ai (Gl2 ty48 ?_)))
             refine Gm C (Gm C (G.e (Ah call64 C C (FindP03_ok (nd:=nn2) Bk x16 (nn2 - 1))) ?_))
             rintro _ _ ⟨_,_,⟨y70,rfl,hy70,rfl⟩,rfl,rfl⟩
             refine Ga C ?_
             have hyy:ye50=y70:=hEye50.find.uniq hy70
             have hfd:=hEye50.fd
             rw [hyy] at hfd
             have hTEf:0<=y70->_:=λh:0<=y70=>edge_te (hH.graph _) hEye50 om
             refine Af (Ap (Ai (Gm C (Gr (A7 C C) (Af (A8 C (λc160=>?_) (λc160=>?_)))))))
             ·refine Ai (Gf fld90_0 C (Gl ty4 ?_))
              refine Gr (B4 C) (Gm C (G.splitb (d:=164) C (λg164=>?_) (λg164=>?_)))
              ·refine e9 (Ab fld90_7 C) (e9 (As ty22) ?_)
               refine e9 (Bs Ac C) (e9 (Bu C C) (Gr (Ar C C) (Gm C (Bg (d:=170) C (λg170=>?_) (λg170=>?_)))))
               ·refine e9 (Ab fld90_6 C) (e9 (As ty22) ?_)
                refine e9 (Bs Ac C) (e9 (Bu C C) (Gr (Ar C C) (Gm C (Bg (d:=176) C (λg176=>?_) (λg176=>?_)))))
                ·refine D5 (Ck C C C) (Ah call41 C C (Awake43_ok (Bx hT A3))) ?_
                 rintro _ _ ⟨_,_,⟨rfl,rfl⟩,rfl,rfl⟩
                 exact Gr (Ar C C) (Ga C (Af (Aq (S1 2 C) (A2 (Am (A6 C C I (by first|exact A3|exact FitW) ⟨rfl,rfl⟩))))))
                ·exact absurd (by rw [(hEye50.none om).2.2];rfl) g176
               ·exact absurd (by rw [(hEye50.none om).2.1];rfl) g170
              ·exfalso;rw [hfd,decide_eq_false om] at g164;cases g164
             ·refine Ay (Aj (Ap (Bl mixed (Bt (e8 b69 [.bool true,e7 0,e7 0,.slice ad60 (eo BB62).length cp61,e7 NN66,e7 EE68,.slice none 0 0,.slice none 0 0,.slice none 0 0,e7 EE68,.slice ad63 pt65.length cp64] 90::vc 3 (.slice ad60 (eo BB62).length cp61) (eo BB62)::vc 3 (.slice ad63 pt65.length cp64) (pt65)::e8 b59 [.bool fd51,e7 nm52,e7 0,.slice none 0 0,e7 0,e7 0,.slice none 0 0,.slice ad56 OL58.length cp57,.slice ad53 NL55.length cp54,e7 0,.slice none 0 0] 90::vc 3 (.slice ad53 NL55.length cp54) (NL55)::vc 3 (.slice ad56 OL58.length cp57) (OL58)::vc 3 (.slice ad49 2 2) (([x16,nn2 - 1]:List Int))::e8 bq [.bool ((decide (0<(((commG nn2 (atG kd6 wd7 mo8 es5 x11) x16 zl).length:Nat):Int)))),e7 0,e7 0,.slice ma (commG nn2 (atG kd6 wd7 mo8 es5 x11) x16 zl).length mc,e7 0,e7 0,.slice none 0 0,.slice oa (coreO nn2 (atG kd6 wd7 mo8 es5 x11)).length oc,.slice na (coreN nn2 (atG kd6 wd7 mo8 es5 x11)).length nc,e7 0,.slice none 0 0] 90::vc 3 (.slice ma (commG nn2 (atG kd6 wd7 mo8 es5 x11) x16 zl).length mc) (commG nn2 (atG kd6 wd7 mo8 es5 x11) x16 zl)::vc 3 (.slice na (coreN nn2 (atG kd6 wd7 mo8 es5 x11)).length nc) (coreN nn2 (atG kd6 wd7 mo8 es5 x11))::vc 3 (.slice oa (coreO nn2 (atG kd6 wd7 mo8 es5 x11)).length oc) (coreO nn2 (atG kd6 wd7 mo8 es5 x11))::e8 b22 [.bool true,e7 (e_ (coreN nn2 (atG kd6 wd7 mo8 es5 x11)) x16),e7 0,.slice none 0 0,e7 0,e7 0,.slice none 0 0,.slice ad20 (coreO nn2 (atG kd6 wd7 mo8 es5 x11)).length cp21,.slice ad18 (coreN nn2 (atG kd6 wd7 mo8 es5 x11)).length cp19,e7 0,.slice none 0 0] 90::vc 3 (.slice ad18 (coreN nn2 (atG kd6 wd7 mo8 es5 x11)).length cp19) (coreN nn2 (atG kd6 wd7 mo8 es5 x11))::vc 3 (.slice ad20 (coreO nn2 (atG kd6 wd7 mo8 es5 x11)).length cp21) (coreO nn2 (atG kd6 wd7 mo8 es5 x11))::e8 b15 [e7 nn2,.slice ad13 (atG kd6 wd7 mo8 es5 x11).length cp14] 48::vc 135 (.slice ad13 (atG kd6 wd7 mo8 es5 x11).length cp14) (atG kd6 wd7 mo8 es5 x11)::e8 b10 [e7 kd6,e7 wd7,e7 mo8] 31::vc 108 (.slice ad3 es5.length cp4) (es5)::e8 dk1 [.slice la ln lc,e7 iq] 125::I) 25 (Dr 0 C (Ab fld90_0 C) (Dr 1 C (As ty4) ?_))))))
              refine Dr 2 C (Ad C) (D.splitb (d:=181) C (λg181=>?_) (λg181=>?_))
              ·refine Dro 3 C (Bd (vs:=[_,_]) ty48) ?_
               refine Dro 4 C (Ab fld90_7 C) (Dro 5 C (As ty22) ?_)
               refine Dro 6 C (Ab fld90_6 C) (Dro 7 C (As ty22) ?_)
               refine Ds1 8 (Sc0 C (Ah call65 C C (Check12_ok (nd:=nn2) (num:=NL55) (ord:=OL58) Bk Bk Bk (hH.graph _) (hTEf om).1 (edges_7 (hH.graph _) om))) ?_)
               refine Dro 9 C (Bu C C) (Dr 10 C (Ar C C) (Dr 11 C (Ad C) (Cs (d:=190) C (λg190=>?_) (λg190=>?_))))
               ·refine Dro 12 C (Ab fld90_7 C) (Dro 13 C (As ty22) ?_)
                refine Dro 14 C (Ad C) (Dro 15 C (Az (α:=Int) (xs:=NL55) Ac ef C C Bk om (by first|omega|(have h9:=(hTEf om).2;omega))) (Dro 16 C (Bo (xs:=NL55) ef C Bk om (by first|omega|(have h9:=(hTEf om).2;omega))) (Dro 17 C (Ab fld90_1 C) (Dro 18 C (As ef) ?_))))
                refine Dro 19 C (Bu C C) (Dr 20 C (Ar C C) (Dr 21 C (Ad C) (Cs (d:=200) C (λg200=>?_) (λg200=>?_))))
                ·refine Ds1 22 (Sc0 C (Ah call41 C C (Awake43_ok (Bx hT A3))) ?_)
                 exact Dr 23 C (Ar C C) (Dr 24 C (Bb C) (Dz (Aj (Aq (S1 2 C) (A2 (A6 C C I (by first|exact A3|exact FitW) ⟨rfl,rfl⟩))))))
                ·obtain ⟨q1,q2,_⟩:=hEye50.some om;exact absurd (by rw [q2,q1,hyy]) g200
               ·exact absurd rfl g190
              ·exfalso;rw [hfd,decide_eq_true om] at g181;cases g181
end Go.Sl
