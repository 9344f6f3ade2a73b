/- A part of the proofs of statements of this seat: contracts of functions, and the plain laws that they lean on. No conditions. -/
import Derived.Test.YtfkcohmipjhfcaaGreatDoorG8
set_option linter.unusedVariables false
set_option linter.unusedSimpArgs false
set_option linter.unusedSectionVars false
namespace Go.Sl
section
variable {α:Type}[Inhabited α][DecidableEq α]
def compG(xs:List α):Nat→List α
 |0=>[]
 |k+1=>if 0<k∧at_ xs (k:Int)=at_ xs ((k:Int) - 1) then compG xs k else compG xs k++[at_ xs (k:Int)]
theorem compG_len(xs:List α):∀k,(compG xs k).length≤k
 |0=>by simp [compG]
 |k+1=>by
  have:=compG_len xs k
  simp only [compG]
  split
  ·omega
  ·rw [List.length_append];simp;omega
theorem compG_take{xs:List α}{k:Nat}(h:∀j,j<k→0<j→at_ xs (j:Int)≠at_ xs ((j:Int) - 1))(hk:k≤xs.length):compG xs k=xs.take k:=by
 induction k with
 |zero=>rfl
 |succ k ih=>
  simp only [compG]
  rw [if_neg fun e=>h k (by omega) e.1 e.2,ih (fun j hj h0=>h j (by omega) h0) (by omega),take_at xs k (by omega)]
theorem compG_keep{xs ys:List α}{m q:Nat}(h:ys.take m=compG xs q)(h0:0<q)(he:¬at_ ys (q:Int)≠at_ ys ((q:Int) - 1))(h1:at_ ys (q:Int)=at_ xs (q:Int))(h2:at_ ys ((q:Int) - 1)=at_ xs ((q:Int) - 1)):ys.take m=compG xs (q+1):=by
 rw [h1,h2] at he
 simp only [compG]
 rw [if_pos ⟨h0,Classical.not_not.1 he⟩,h]
theorem compG_put{xs ys:List α}{m q:Nat}(h:ys.take m=compG xs q)(hm:m<ys.length)(he:at_ ys (q:Int)≠at_ ys ((q:Int) - 1))(h1:at_ ys (q:Int)=at_ xs (q:Int))(h2:at_ ys ((q:Int) - 1)=at_ xs ((q:Int) - 1)):(ys.set m (at_ ys (q:Int))).take (m+1)=compG xs (q+1):=by
 rw [h1,h2] at he
 simp only [compG]
 rw [if_neg fun e=>he e.2,←h,h1,List.take_add_one,List.take_set_of_le (Nat.le_refl _)]
 simp [hm]
theorem at_dropG(xs:List α)(l:Nat)(i:Int)(h0:0≤i):at_ (xs.drop l) i=at_ xs ((l:Int)+i):=by
 unfold at_
 rw [List.getD_eq_getElem?_getD,List.getD_eq_getElem?_getD,List.getElem?_drop]
 congr 2;omega
end
theorem compZ_spec{xs:List Int}(h:xs.Pairwise (· ≤ ·)):∀k,k≤xs.length→(compG xs k).Pairwise (· < ·)∧(∀x,x∈compG xs k↔x∈xs.take k)
 |0,_=>by simp [compG]
 |k+1,hk=>by
  obtain ⟨h1,h2⟩:=compZ_spec h k (by omega)
  have hle:∀i j:Nat,i<j→j<xs.length→at_ xs (i:Int)≤at_ xs (j:Int):=fun i j hij hj=>by
   rw [at_get xs i (by omega),at_get xs j hj]
   exact (List.pairwise_iff_getElem.1 h) i j (by omega) hj hij
  rw [take_at xs k (by omega)]
  simp only [compG]
  have mem:∀a,a∈xs.take k→∃j:Nat,j<k∧a=at_ xs (j:Int):=fun a ha=>by
   obtain ⟨j,hj,rfl⟩:=List.getElem_of_mem ha
   rw [List.length_take] at hj
   exact ⟨j,by omega,by rw [List.getElem_take,at_get xs j (by omega)]⟩
  split
  ·rename_i hc
   refine ⟨h1,fun x=>?_⟩
   rw [h2,List.mem_append,List.mem_singleton]
   refine ⟨.inl,fun e=>e.elim id fun e=>?_⟩
   subst e
   rw [hc.2,show (k:Int) - 1=((k - 1:Nat):Int) by omega,at_get xs (k - 1) (by omega)]
   exact List.mem_take_iff_getElem.2 ⟨k - 1,by omega,rfl⟩
  ·rename_i hc
   refine ⟨List.pairwise_append.2 ⟨h1,List.pairwise_singleton _ _,fun a ha b hb=>?_⟩,fun x=>by rw [List.mem_append,List.mem_append,h2]⟩
   rw [List.mem_singleton.1 hb]
   obtain ⟨j,hj,rfl⟩:=mem a ((h2 a).1 ha)
   have h3:=hle (k - 1) k (by omega) (by omega)
   have h4:at_ xs (j:Int)≤at_ xs ((k - 1:Nat):Int):=by
    by_cases e:j=k - 1
    ·rw [e];exact Int.le_refl _
    ·exact hle j (k - 1) (by omega) (by omega)
   have h5:at_ xs (k:Int)≠at_ xs ((k:Int) - 1):=fun e=>hc ⟨by omega,e⟩
   rw [show (k:Int) - 1=((k - 1:Nat):Int) by omega] at h5
   omega
theorem compZ_asc{xs:List Int}(h:xs.Pairwise (· ≤ ·)):(compG xs xs.length).Pairwise (· < ·):=(compZ_spec h _ (Nat.le_refl _)).1
theorem mem_compZ{xs:List Int}(h:xs.Pairwise (· ≤ ·)){x:Int}:x∈compG xs xs.length↔x∈xs:=by
 have:=(compZ_spec h _ (Nat.le_refl _)).2 x
 rwa [List.take_length] at this
end Go.Sl
namespace Go.Sl
open Go.Proofs
set_option maxRecDepth 4000
theorem Few_ok{κ:Ctx}{I:List Item}{la:Option Addr}{ln lc:Nat} :
    CallS Tryz.prog κ 16 [.slice la ln lc] I (fun r J=>r = .bool (decide ((ln:Int)≤500))∧I=J):=by
 refine Ce1 Tryz.func16 rfl rfl ?_
 exact Ah (Ga rfl (Af (Ah (Gm rfl (Gr (Bq Aa rfl) (Gr (Dv rfl rfl) (Ga rfl (Af (Az (A4 rfl rfl (I) Ax ⟨rfl,rfl⟩))))))))))
variable {κ:Ctx}{I:List Item}
theorem sortI_ok{e:TypeId}{ad:Option Addr}{c:Nat}{xs:List Int}(hsz:xs.length<4611686018427387904) :
  CallS Tryz.prog κ 142 [.slice ad xs.length c] (vc e (.slice ad xs.length c) xs::I) fun r J=>r = .tuple #[]∧J=vc e (.slice ad xs.length c) (sortZ xs)::I:=
 (sortI_any (κ:=κ) (I:=I) Tryz.sortI (e:=e) (ad:=ad) (c:=c) hsz).mono fun r J ⟨h1,h2⟩=>⟨h1,by rw [h2,sortZ_len]⟩
theorem CompactI_ok{a:Option Addr}{c:Nat}{xs:List Int}(hsz:xs.length<1000000000000) :
    CallS Tryz.prog κ 143 [.slice a xs.length c] (vc 3 (.slice a xs.length c) (xs)::I) (fun r J=>r = .slice a (compG xs xs.length).length c∧J=vc 3 (.slice a (compG xs xs.length).length c) (compG xs xs.length)::I):=by
 refine B4 (vc.cap List.mem_cons_self) fun hcap=>?_
 refine Ce1 Tryz.func143 rfl rfl ?_
 refine Ah (Ga rfl (Af (Ap (Ah (Gm rfl (Gr (Bq Aa rfl) (Gr (Bb rfl rfl) (Af (A9 rfl (fun c8=>?_) (fun c8=>?_))))))))))
 ·refine Ah (Gm rfl (Ga rfl (Af (Az (Ak ?_)))))
  have hc:compG xs xs.length=xs:=(compG_take (fun j h1 h2=>by omega) (Nat.le_refl _)).trans (List.take_length)
  exact A4 rfl rfl (vc 3 (.slice a (compG xs xs.length).length c) (compG xs xs.length)::I) (by rw [hc];exact Ay) ⟨by rw [hc],rfl⟩
 ·refine A1 (Ai (Ap (Ah (Ga rfl (Af (A3 (Bv (σ:=Nat) (fun s=>([(0,.slice a xs.length c),(3,I64 (((s:Nat):Int)))]:Env)) (fun s=>vc 3 (.slice a xs.length c) (xs)::I) (fun s=>(1≤s∧s≤xs.length)∧(∀j,j<s→0<j→at_ xs (j:Int)≠at_ xs ((j:Int) - 1))) (fun s=>xs.length - s) (1) (show (1≤(1:Nat)∧(1:Nat)≤xs.length)∧(∀j,j<(1:Nat)→0<j→at_ xs (j:Int)≠at_ xs ((j:Int) - 1)) from ⟨om,(fun j h1 h2=>by omega)⟩) (Ab rfl (Ab Cc Bj)) (show Fit κ _ (vc 3 (.slice a xs.length c) (xs)::I) from Ay) ?_)))))))
  rintro k hp
  obtain ⟨hk,hne⟩:=hp
  refine Ap (Ah (Gm rfl (Gm rfl (Gr (Bq Aa rfl) (Gr (Bb rfl rfl) (Af (A9 rfl (fun c13=>?_) (fun c13=>?_))))))))
  ·refine A1 (Ai (Ap (A3 (Ap (Bd mixed (Bl (vc 3 (.slice a xs.length c) (xs)::I) 10 (Dr 0 rfl (Ad rfl) (Dr 1 rfl (Ad rfl) (Dr 2 rfl (A0 (α:=Int) (xs:=xs) Aa ty3 rfl rfl Bf om (by first|omega|(simp only [List.length_drop];omega))) (Dr 3 rfl (Bp (xs:=xs) ty3 rfl Bf om (by first|omega|(simp only [List.length_drop];omega))) (Dr 4 rfl (Ad rfl) (Dr 5 rfl (Ad rfl) (Dr 6 rfl (Rsu rfl rfl) (Dr 7 rfl (A0 (α:=Int) (xs:=xs) Aa ty3 rfl rfl Bf om (by first|omega|(simp only [List.length_drop];omega))) (Dr 8 rfl (Bp (xs:=xs) ty3 rfl Bf om (by first|omega|(simp only [List.length_drop];omega))) (Dr 9 rfl (Bm rfl rfl) (Dz (Ai (Ar (S3 25 0 3 rfl rfl rfl) (A9 rfl (fun c25=>?_) (fun c25=>?_)))))))))))))))))))))
   ·refine Ah (Gm rfl (Gm rfl (Gr (Ed (α:=Int) (xs:=xs) (l:=k) Aa ty3 rfl rfl om Bf om) (Ga rfl (Af (Ap (Ah (Ga rfl (Af (A3 (Bv (σ:=Nat×Nat×(List Int)) (fun s=>([(0,.slice a xs.length c),(3,I64 (((s.1:Nat):Int))),(4,.slice (adrop a c k (Enc.sz Int)) (List.drop k xs).length (c - k)),(5,I64 (((s.2.1:Nat):Int)))]:Env)) (fun s=>vc 3 (.slice a xs.length c) (s.2.2)::I) (fun s=>(1≤s.2.1∧k+s.2.1≤xs.length)∧(s.2.2.length=xs.length)∧(1≤s.1∧s.1<k+s.2.1)∧(s.2.2.take s.1=compG xs (k+s.2.1))∧(∀j,k+s.2.1≤j+1→at_ s.2.2 (j:Int)=at_ xs (j:Int))) (fun s=>xs.length - (k+s.2.1)) (k,1,xs) (show (1≤(1:Nat)∧k+(1:Nat)≤xs.length)∧((xs:List Int).length=xs.length)∧(1≤(k:Nat)∧(k:Nat)<k+(1:Nat))∧((xs:List Int).take (k:Nat)=compG xs (k+(1:Nat)))∧(∀j,k+(1:Nat)≤j+1→at_ (xs:List Int) (j:Int)=at_ xs (j:Int)) from ⟨om,om,om,(by rw [←compG_take hne om];simp only [compG];rw [if_pos ⟨by omega,c25⟩]),(fun _ _=>rfl)⟩) (Ab rfl (Ab Cc (Ab rfl (Ab Cc Bj)))) (show Fit κ _ (vc 3 (.slice a xs.length c) ((xs))::I) from Ay) ?_)))))))))))
    rintro ⟨m,q,ys⟩ hp
    dsimp only at hp ⊢
    obtain ⟨hq,hyl,hm,htk,hsame⟩:=hp
    have hdl:(List.drop k xs).length=xs.length - k:=List.length_drop
    have hq1:=hsame (k+q) om
    have hq2:=hsame (k+q - 1) om
    rw [show ((k+q - 1:Nat):Int)=((k+q:Nat):Int) - 1 by omega] at hq2
    refine Ap (Ah (Gm rfl (Gm rfl (Gr (Bq Aa rfl) (Gr (Bb rfl rfl) (Af (A9 rfl (fun c32=>?_) (fun c32=>?_))))))))
    ·refine A1 (Ai (Ap (A3 (Ap (Bd mixed (Bl (vc 3 (.slice a xs.length c) (ys)::I) 10 (Dr 0 rfl (Ad rfl) (Dr 1 rfl (Ad rfl) (Dr 2 rfl (A0 (α:=Int) (xs:=List.drop k ys) Aa ty3 rfl rfl (Ee Bf om (by rw [List.length_drop];omega)) om (by first|omega|(simp only [List.length_drop];omega))) (Dr 3 rfl (Bp (xs:=List.drop k ys) ty3 rfl (Ee Bf om (by rw [List.length_drop];omega)) om (by first|omega|(simp only [List.length_drop];omega))) (Dr 4 rfl (Ad rfl) (Dr 5 rfl (Ad rfl) (Dr 6 rfl (Rsu rfl rfl) (Dr 7 rfl (A0 (α:=Int) (xs:=List.drop k ys) Aa ty3 rfl rfl (Ee Bf om (by rw [List.length_drop];omega)) om (by first|omega|(simp only [List.length_drop];omega))) (Dr 8 rfl (Bp (xs:=List.drop k ys) ty3 rfl (Ee Bf om (by rw [List.length_drop];omega)) om (by first|omega|(simp only [List.length_drop];omega))) (Dr 9 rfl (Br rfl rfl) (Dz (Ai (Ar (S5 44 0 3 4 5 rfl rfl rfl rfl rfl) (A9 rfl (fun c44=>?_) (fun c44=>?_)))))))))))))))))))))
     ·refine Ah (Gm rfl (Gm rfl (Gm rfl (Gm rfl (Gr (A0 (α:=Int) (xs:=List.drop k ys) Aa ty3 rfl rfl (Ee Bf om (by rw [List.length_drop];omega)) om (by first|omega|(simp only [List.length_drop];omega))) (Gr (Bp (xs:=List.drop k ys) ty3 rfl (Ee Bf om (by rw [List.length_drop];omega)) om (by first|omega|(simp only [List.length_drop];omega))) (Gr (A0 (α:=Int) (xs:=ys) Aa ty3 rfl rfl Bf om (by first|omega|(simp only [List.length_drop];omega))) (Ge0 (Cw (α:=Int) (xs:=ys) (e:=3) (new:=at_ (List.drop k ys) (q:Int)) ty3 rfl rfl rfl om (by first|omega|(simp only [List.length_drop];omega)) am) ?_))))))))
      refine Af (A2 (Gm rfl (Gr (Rad rfl rfl) (Ga rfl (Bh (Aj (Ai (Ar (S4 3 0 4 5 rfl rfl rfl rfl) (A2 (Gm rfl (Gr (Rad rfl rfl) (Ga rfl (Bh ?_)))))))))))))
      have hd1:at_ (List.drop k ys) (q:Int)=at_ ys ((k+q:Nat):Int):=by rw [at_dropG _ _ _ om];congr 1
      have hd2:at_ (List.drop k ys) ((q:Int) - 1)=at_ ys (((k+q:Nat):Int) - 1):=by rw [at_dropG _ _ _ om];congr 1;omega
      have hset:List.set ys ((m:Int)).toNat (at_ (List.drop k ys) (q:Int))=ys.set m (at_ ys ((k+q:Nat):Int)):=by rw [←hd1];rfl
      rw [hset]
      rw [hd1,hd2] at c44
      exact B7 ((m+1),(q+1),(ys.set m (at_ ys ((k+q:Nat):Int)))) (by dsimp only;exact ⟨om,(by rw [List.length_set];exact hyl),om,(by rw [show k+(q+1)=k+q+1 by omega];exact compG_put htk om c44 hq1 hq2),(fun j hj=>by rw [at_setn _ _ _ _ om,if_neg om];exact hsame j om)⟩) (hlt:=by (try dsimp only);exact (by simp only [List.length_drop] at *; omega))
     ·refine A1 (Aj (Ai (A2 (Gm rfl (Gr (Rad rfl rfl) (Ga rfl (Bh ?_)))))))
      have hd1:at_ (List.drop k ys) (q:Int)=at_ ys ((k+q:Nat):Int):=by rw [at_dropG _ _ _ om];congr 1
      have hd2:at_ (List.drop k ys) ((q:Int) - 1)=at_ ys (((k+q:Nat):Int) - 1):=by rw [at_dropG _ _ _ om];congr 1;omega
      rw [hd1,hd2] at c44
      exact B7 ((m),(q+1),(ys)) (by dsimp only;exact ⟨om,om,om,(by rw [show k+(q+1)=k+q+1 by omega];exact compG_keep htk om c44 hq1 hq2),(fun j hj=>hsame j om)⟩) (hlt:=by (try dsimp only);exact (by simp only [List.length_drop] at *; omega))
    ·refine Bs (Am (Am (A7 (Ai (Ah (Gm rfl (Gm rfl (Gr (Ed (α:=Int) (xs:=ys) (l:=m) Aa ty3 rfl rfl om Bf om) (Ge0 (Eff.clear (α:=Int) (k:=m) (xs:=ys) Aa ty3 (AllOne.cons rfl AllOne.nil) rfl rfl om am) ?_)))))))))
     refine Af (Ah (Gm rfl (Gm rfl (Gr (Runs.hiraw (h:=m) Aa ty3 rfl rfl om om) (Ga rfl (Af (Ar (S1 2 rfl) (Az (Ao (Ak (Ak (Ao (Ak ?_)))))))))))))
     have hc:ys.take m=compG xs xs.length:=by rw [htk];congr 1;omega
     have hcm:(compG xs xs.length).length=m:=by rw [←hc,List.length_take,hyl,Nat.min_eq_left om]
     exact A4 rfl rfl (vc 3 (.slice a (compG xs xs.length).length c) (compG xs xs.length)::I) (by rw [←hc];exact Ay) ⟨by rw [hcm],rfl⟩
   ·exact A1 (Aj (Ai (A2 (Gm rfl (Gr (Rad rfl rfl) (Ga rfl (Bh (B7 ((k+1)) ⟨om,(all_succ hne (fun _=>c25))⟩))))))))
  ·refine Bs (Am (Am (A7 (Ai (Ah (Gm rfl (Ga rfl (Af (Az ?_)))))))))
   have hc:compG xs xs.length=xs:=(compG_take (fun j h1 h2=>hne j om h2) (Nat.le_refl _)).trans (List.take_length)
   exact A4 rfl rfl (vc 3 (.slice a (compG xs xs.length).length c) (compG xs xs.length)::I) (by rw [hc];exact Ay) ⟨by rw [hc],rfl⟩
theorem CloneI{a:Option Addr}{c:Nat}{xs:List Int}(hl:Sl κ I (.slice a xs.length c) xs)(hb:xs.length≤1000000000) :
    CallS Tryz.prog κ 284 [.slice a xs.length c] I (fun r J=>∃a' c',r = .slice a' xs.length c'∧J=vc 3 (.slice a' xs.length c') xs::I):=by
 refine B4 (p:=a.isNone=true→xs=[]∧c=0) (fun w hs hn=>hl.isNone w hs hn) fun hnone=>?_
 refine Ce1 Tryz.func284 rfl rfl ?_
 refine Ah (Ga rfl (Af (Ap (Ah (Gm rfl (Gr (Runs.eqnil Aa rfl rfl) (Af (W.cond rfl (fun c4=>?_) (fun c4=>?_)))))))))
 ·refine Ah (Ga rfl (Af (Az (Ak ?_))))
  obtain ⟨hx0,_⟩:=hnone c4
  subst hx0
  exact A4 rfl rfl (vc 3 (.slice none ([]:List Int).length 0) ([]:List Int)::I) (Bx _ _) ⟨none,0,rfl,rfl⟩
 ·refine A1 (Ai (Ah (Ge1 (Eff.bs0 (α:=Int) Aa ty3 rfl) fun ad1=>?_)))
  refine Gm rfl (Ge2 (Ch (α:=Int) (e:=3) (xs:=([]:List Int)) (ys:=xs) Aa ty3 rfl rfl rfl mm (Bi hl) (by simp only [List.length_nil];omega) dc rfl (fun _ _=>am)) fun ad2 cp3=>?_)
  exact Ga rfl (Af (Az (A4 rfl rfl (vc 3 (.slice ad2 xs.length cp3) xs::I) Ay ⟨ad2,cp3,rfl,rfl⟩)))
theorem CheckGen_ok{κ:Ctx}{I:List Item}{nd:Int}{v:Value}{es:List Pt}(hl:Sl κ I v es) :
    CallS Tryz.prog κ 83 [.agg #[I64 (nd),v]] I (fun r J=>r=I64 (checkG nd es)∧I=J):=by
 refine B4 hl.le fun hmax=>?_
 refine Ce1 Tryz.func83 rfl rfl ?_
 refine Ah (Ge1 (Bc (cs:=[_,_]) rfl rfl rfl) fun b1=>Ga rfl (Af (Ap (Ah (Gf fld48_0 rfl (Gl ty3 ?_))))))
 refine Gr (Bb rfl rfl) (Gm rfl (Bk (d:=8) rfl (fun g8=>?_) (fun g8=>?_)))
 ·exact Gpo (Gpo (Gpo (Gr (As rfl rfl) (Af (C0 rfl (Ah (Ga rfl (Af (Az (Ak (A4 rfl rfl (I) Ax ⟨by rw [show checkG nd es=1 from (by unfold checkG;rw [if_pos om])],rfl⟩)))))))))))
 ·refine Gro (Ac fld48_0 rfl) (Gro (Av ty3) ?_)
  refine Gro (B2 rfl rfl) (Gr (Au rfl rfl) (Af (A9 rfl (fun c12=>?_) (fun c12=>?_))))
  ·exact Ah (Ga rfl (Af (Az (Ak (A4 rfl rfl (I) Ax ⟨by rw [show checkG nd es=1 from (by unfold checkG;rw [if_pos om])],rfl⟩)))))
  ·refine A1 (Ai (Ap (Ah (Gf fld48_1 rfl (Gl ty46 ?_)))))
   refine Gr (Bw (α:=Pt) (xs:=es) B1 rfl (Bi hl)) (Gm rfl (Af (Ar (S4 16 15 14 1 rfl rfl rfl rfl) (A3 (Bv (σ:=Nat) (fun s=>([(1,.pointer (some ⟨b1,0,none⟩)),(14,v),(15,I64 (((es.length:Nat):Int))),(16,I64 (((s:Nat):Int)))]:Env)) (fun s=>blk b1 [I64 (nd),v] 48::I) (fun s=>(s≤es.length)∧(checkG nd es=scanL (badE nd) Pt.lt (prevAt es s) (es.drop s))) (fun s=>es.length - s) (0) (show ((0:Nat)≤es.length)∧(checkG nd es=scanL (badE nd) Pt.lt (prevAt es (0:Nat)) (es.drop (0:Nat))) from ⟨om,(by unfold checkG;rw [if_neg om];rfl)⟩) (Ab rfl (Ab rfl (Ab rfl (Ab Cc Bj)))) (show Fit κ _ (blk b1 [I64 (nd),v] 48::I) from Ay) ?_)))))
   rintro k hp
   obtain ⟨hk,hs⟩:=hp
   refine Ah (Gr (Bb rfl rfl) (Af (Ap (A9 rfl (fun c17=>?_) (fun c17=>?_)))))
   ·refine A1 (Ai (Ap (A3 (Ah (Gm rfl (Gr (A0 (α:=Pt) (xs:=es) B1 ty135 rfl rfl (Bi hl) om om) (Gr (Bu (α:=Pt) (xs:=es) ty135 rfl (Bi hl) om om) (Ge1 (A8 ty135 rfl) fun b2=>Ga rfl (Ge0 (Co ty135) ?_)))))))))
    refine Af (A3 (Ah (Gf fld135_0 rfl (Gl ty3 ?_))))
    refine Gr (Bb rfl rfl) (Gm rfl (Bk (d:=25) rfl (fun g25=>?_) (fun g25=>?_)))
    ·exact Gpo (Gpo (Gpo (Gpo (Gpo (Gr (As rfl rfl) (Gm rfl (Gpo (Gpo (Gpo (Gpo (Gpo (Gr (As rfl rfl) (Ga rfl (Af (Ar (S7 21 3 4 1 14 15 16 rfl rfl rfl rfl rfl rfl rfl) (C0 rfl (Ah (Ga rfl (Af (Az (Ao (Ao (Ak (Ak (Ao (Ak (A4 rfl rfl (I) Ax ⟨by rw [show checkG nd es=6 from (hs.trans ((Di om (by unfold badE;rw [if_pos om];decide)).trans (by unfold badE;rw [if_pos om])))],rfl⟩)))))))))))))))))))))))))))
    ·refine Gro (Ac fld135_0 rfl) (Gro (Av ty3) ?_)
     refine Gro (Ac fld135_1 rfl) (Gro (Av ty3) ?_)
     refine Gro (Ca rfl rfl) (Gr (Au rfl rfl) (Gm rfl (Bk (d:=32) rfl (fun g32=>?_) (fun g32=>?_))))
     ·exact Gpo (Gpo (Gpo (Gpo (Gpo (Gr (As rfl rfl) (Ga rfl (Af (Ar (S7 21 3 4 1 14 15 16 rfl rfl rfl rfl rfl rfl rfl) (C0 rfl (Ah (Ga rfl (Af (Az (Ao (Ao (Ak (Ak (Ao (Ak (A4 rfl rfl (I) Ax ⟨by rw [show checkG nd es=6 from (hs.trans ((Di om (by unfold badE;rw [if_pos om];decide)).trans (by unfold badE;rw [if_pos om])))],rfl⟩))))))))))))))))))))
     ·refine Gro (Ac fld135_1 rfl) (Gro (Av ty3) ?_)
      refine Gro (Ac fld48_0 rfl) (Gro (Av ty3) ?_)
      refine Gro (Ca rfl rfl) (Gr (Au rfl rfl) (Ga rfl (Af (Ar (S7 21 3 4 1 14 15 16 rfl rfl rfl rfl rfl rfl rfl) (A9 rfl (fun c21=>?_) (fun c21=>?_))))))
      ·exact Ah (Ga rfl (Af (Az (Ao (Ao (Ak (Ak (Ao (Ak (A4 rfl rfl (I) Ax ⟨by rw [show checkG nd es=6 from (hs.trans ((Di om (by unfold badE;rw [if_pos om];decide)).trans (by unfold badE;rw [if_pos om])))],rfl⟩))))))))))
      ·refine Ap (Bd mixed (Bl (blk b2 [I64 ((at_ es (k:Int)).u),I64 ((at_ es (k:Int)).v)] 135::blk b1 [I64 (nd),v] 48::I) 14 (Dr 0 rfl (Ad rfl) (Dr 1 rfl (B2 rfl rfl) (Dr 2 rfl (Ad rfl) (Dl (d:=42) rfl (fun g42=>?_) (fun g42=>?_)))))))
       ·refine Dro 3 rfl (Ac fld48_1 rfl) (Dro 4 rfl (Av ty46) ?_)
        refine Dro 5 rfl (Ad rfl) (Dro 6 rfl (Rsu rfl rfl) (Dro 7 rfl (A0 (α:=Pt) (xs:=es) B1 ty135 rfl rfl (Bi hl) om om) (Dro 8 rfl (Bu (α:=Pt) (xs:=es) ty135 rfl (Bi hl) om om) (Dro 9 rfl (Bo (vs:=[_,_]) ty135) ?_))))
        refine Ds1 10 (Se rfl (Al call154 rfl rfl (Order_ok (at_ es ((k:Int) - 1)) (at_ es (k:Int)))) ?_)
        rintro _ _ ⟨_,_,⟨rfl,rfl⟩,rfl,rfl⟩
        refine ⟨Ax,?_⟩
        refine Dro 11 rfl (Ca rfl rfl) (Dr 12 rfl (As rfl rfl) (Dr 13 rfl (A6 rfl) (Dz (Ai (Ar (S5 39 1 14 15 16 rfl rfl rfl rfl rfl) (A9 rfl (fun c39=>?_) (fun c39=>?_)))))))
        ·exact Ah (Ga rfl (Af (Az (Ao (Ao (Ak (Ak (Ao (Ak (A4 rfl rfl (I) Ax ⟨by rw [show checkG nd es=5 from (hs.trans (scanL_order om (badE_zero.2 om) om (fun h=>by have:=(Pt.cmp_lt _ _).2 h;omega)))],rfl⟩))))))))))
        ·exact A1 (Aj (Aj (Ai (A2 (Gr (Rad rfl rfl) (Gm rfl (Bh (B7 ((k+1)) ⟨om,(hs.trans (scanL_step om (badE_zero.2 om) (fun h0=>by first|omega|exact (Pt.cmp_lt _ _).1 om)))⟩))))))))
       ·exact Dpo 3 rfl (Dpo 4 rfl (Dpo 5 rfl (Dpo 6 rfl (Dpo 7 rfl (Dpo 8 rfl (Dpo 9 rfl (Dpo 10 rfl (Dpo 11 rfl (Dr 12 rfl (Au rfl rfl) (Dr 13 rfl (A6 rfl) (Dz (Ai (Ar (S5 39 1 14 15 16 rfl rfl rfl rfl rfl) (D0 rfl (A1 (Aj (Aj (Ai (A2 (Gr (Rad rfl rfl) (Gm rfl (Bh (B7 ((k+1)) ⟨om,(hs.trans (scanL_step om (badE_zero.2 om) (fun h0=>by first|omega|exact (Pt.cmp_lt _ _).1 om)))⟩)))))))))))))))))))))))
   ·exact Bs (Am (Am (A7 (Ai (Ah (Ga rfl (Af (Az (A4 rfl rfl (I) Ax ⟨by rw [show checkG nd es=0 from (hs.trans (scanL_end om))],rfl⟩)))))))))
variable {κ:Ctx}{I:List Item}
def bitB(v:Int):BitVec 64:=if v<0∨64≤v then 0#64 else 1#64 <<< v.toNat
def maskB(l:List Int):BitVec 64:=l.foldl (fun m v=>m ||| bitB v) 0#64
def allB(n:Int):BitVec 64:=if n≤0 then 0#64 else if 64≤n then 18446744073709551615#64 else (1#64 <<< n.toNat) - 1#64
theorem maskB_take{l:List Int}{k:Nat}(h:k<l.length):maskB (l.take (k+1))=maskB (l.take k) ||| bitB (at_ l (k:Int)):=by
 unfold maskB;rw [C7 l k h,List.foldl_append];rfl
def ones1(m:BitVec 64):BitVec 64:=((m >>> (1:Int).toNat) &&& 6148914691236517205#64)+(m &&& 6148914691236517205#64)
def ones2(m:BitVec 64):BitVec 64:=((m >>> (2:Int).toNat) &&& 3689348814741910323#64)+(m &&& 3689348814741910323#64)
def ones3(m:BitVec 64):BitVec 64:=((m >>> (4:Int).toNat)+m) &&& 1085102592571150095#64
def ones4(m:BitVec 64):BitVec 64:=m+(m >>> (8:Int).toNat)
def ones5(m:BitVec 64):BitVec 64:=m+(m >>> (16:Int).toNat)
def ones6(m:BitVec 64):BitVec 64:=m+(m >>> (32:Int).toNat)
def onesB(m:BitVec 64):Int:=((ones6 (ones5 (ones4 (ones3 (ones2 (ones1 m)))))).toNat:Int) % 128
theorem ones_small(m:BitVec 64):(ones6 (ones5 (ones4 (ones3 m)))).toNat<9223372036854775808:=by
 have h3:(ones3 m).toNat≤1085102592571150095:=by unfold ones3;rw [BitVec.toNat_and];exact Nat.and_le_right
 generalize ones3 m=a at h3
 have h4:(ones4 a).toNat≤a.toNat+a.toNat / 256:=by
  unfold ones4;rw [BitVec.toNat_add,BitVec.toNat_ushiftRight,Nat.shiftRight_eq_div_pow,show 2 ^ (8:Int).toNat=256 by decide];exact Nat.mod_le _ _
 generalize ones4 a=b at h4
 have h5:(ones5 b).toNat≤b.toNat+b.toNat / 65536:=by
  unfold ones5;rw [BitVec.toNat_add,BitVec.toNat_ushiftRight,Nat.shiftRight_eq_div_pow,show 2 ^ (16:Int).toNat=65536 by decide];exact Nat.mod_le _ _
 generalize ones5 b=c at h5
 have h6:(ones6 c).toNat≤c.toNat+c.toNat / 4294967296:=by
  unfold ones6;rw [BitVec.toNat_add,BitVec.toNat_ushiftRight,Nat.shiftRight_eq_div_pow,show 2 ^ (32:Int).toNat=4294967296 by decide];exact Nat.mod_le _ _
 omega
theorem Bit_ok(v:Int) :
    CallS Tryz.prog κ 237 [I64 (v)] I (fun r J=>r=U64 (bitB v)∧I=J):=by
 refine Ce1 Tryz.func237 rfl rfl ?_
 refine Ah (Ga rfl (Af (Ap (Ah (Gm rfl (Gr (Bb rfl rfl) (Gm rfl (Bk (d:=5) rfl (fun g5=>?_) (fun g5=>?_)))))))))
 ·exact Gpo (Gpo (Gr (As rfl rfl) (Af (C0 rfl (Ah (Ga rfl (Af (Az (Ak (A4 rfl rfl (I) Ax ⟨by unfold bitB;rw [if_pos om];rfl,rfl⟩))))))))))
 ·refine Gro (Ad rfl) (Gro (Ca rfl rfl) (Gr (Au rfl rfl) (Af (A9 rfl (fun c8=>?_) (fun c8=>?_)))))
  ·exact Ah (Ga rfl (Af (Az (Ak (A4 rfl rfl (I) Ax ⟨by unfold bitB;rw [if_pos om];rfl,rfl⟩)))))
  ·exact A1 (Ai (Ah (Gm rfl (Gr (Runs.shlB (a:=1#64) rfl rfl om om) (Ga rfl (Af (Az (A4 rfl rfl (I) Ax ⟨by unfold bitB;rw [if_neg om],rfl⟩))))))))
theorem MaskOf_ok{v:Value}{l:List Int}(hl:Sl κ I v l) :
    CallS Tryz.prog κ 199 [v] I (fun r J=>r=U64 (maskB l)∧I=J):=by
 refine B4 hl.le fun hmax=>?_
 refine Ce1 Tryz.func199 rfl rfl ?_
 refine Ah (Ga rfl (Af (Ah (Ga rfl (Af (Ap (Ah (Gm rfl (Gr (Bw (α:=Int) (xs:=l) Aa rfl (Bi hl)) (Gm rfl (Af (A3 (Bv (σ:=Nat×(BitVec 64)) (fun s=>([(3,U64 (s.2)),(6,v),(7,I64 (((l.length:Nat):Int))),(8,I64 (((s.1:Nat):Int)))]:Env)) (fun s=>I) (fun s=>(s.1≤l.length)∧(s.2=maskB (l.take s.1))) (fun s=>l.length - s.1) (0,0#64) (show ((0:Nat)≤l.length)∧((0#64:BitVec 64)=maskB (l.take (0:Nat))) from ⟨om,rfl⟩) (Ab (C1 rfl (by first|rfl|simp)) (Ab rfl (Ab rfl (Ab Cc Bj)))) (show Fit κ _ (I) from Ay) ?_)))))))))))))
 rintro ⟨k,m⟩ hp
 dsimp only at hp ⊢
 obtain ⟨hk,hm⟩:=hp
 refine Ah (Gr (Bb rfl rfl) (Af (Ap (A9 rfl (fun c9=>?_) (fun c9=>?_)))))
 ·refine A1 (Ai (Ap (A3 (Ah (Gr (A0 (α:=Int) (xs:=l) Aa ty3 rfl rfl (Bi hl) om om) (Gr (Bp (xs:=l) ty3 rfl (Bi hl) om om) (Ga rfl (Af (A2 (Gm rfl (Gm rfl (G.e (Al call237 rfl rfl (Bit_ok (at_ l (k:Int)))) ?_))))))))))))
  rintro _ _ ⟨_,_,⟨rfl,rfl⟩,rfl,rfl⟩
  exact Gr (Eg (a:=m) (b:=bitB (at_ l (k:Int))) rfl rfl) (Ga rfl (Bh (Aj (Ai (A2 (Gr (Rad rfl rfl) (Gm rfl (Bh (B7 ((k+1),(m ||| (bitB (at_ l (k:Int))))) (by dsimp only;exact ⟨om,(by rw [maskB_take om,←hm])⟩))))))))))
 ·refine Bs (Am (Am (A7 (Ai (Ah (Gm rfl (Ga rfl (Af (Az ?_)))))))))
  rw [List.take_of_length_le om] at hm
  exact A4 rfl rfl (I) Ax ⟨by rw [hm],rfl⟩
theorem MaskAll_ok(n:Int) :
    CallS Tryz.prog κ 200 [I64 (n)] I (fun r J=>r=U64 (allB n)∧I=J):=by
 refine Ce1 Tryz.func200 rfl rfl ?_
 refine Ah (Ga rfl (Af (Ap (A3 (Ah (Gm rfl (Gr (Dv rfl rfl) (Ga rfl (Af (A9 rfl (fun c3=>?_) (fun c3=>?_)))))))))))
 ·exact Ah (Ga rfl (Af (Az (Ao (Ak (A4 rfl rfl (I) Ax ⟨by unfold allB;rw [if_pos om];rfl,rfl⟩))))))
 ·refine Ah (Gm rfl (Gr (Ca rfl rfl) (Ga rfl (Af (A9 rfl (fun c6=>?_) (fun c6=>?_))))))
  ·exact Ah (Ga rfl (Af (Az (Ao (Ak (A4 rfl rfl (I) Ax ⟨by unfold allB;rw [if_neg om,if_pos om];rfl,rfl⟩))))))
  ·exact A1 (Aj (Ai (Ah (Gm rfl (Gr (Runs.shlB (a:=1#64) rfl rfl om om) (Gr (Runs.subB (a:=(1#64) <<< (n).toNat) (b:=1#64) rfl rfl) (Ga rfl (Af (Az (A4 rfl rfl (I) Ax ⟨by unfold allB;rw [if_neg om,if_neg om],rfl⟩))))))))))
theorem OnesCount_ok(m:BitVec 64) :
    CallS Tryz.prog κ 271 [U64 (m)] I (fun r J=>r=I64 (onesB m)∧I=J):=by
 refine Ce1 Tryz.func271 rfl rfl ?_
 refine Ah (Ga rfl (Af (Ah (Gm rfl (Gr (Ef (a:=m) rfl rfl om om) (Gr (Cr (a:=m >>> (1:Int).toNat) (b:=6148914691236517205#64) rfl rfl) (Gm rfl (Gr (Cr (a:=m) (b:=6148914691236517205#64) rfl rfl) (Gr (Runs.addB (a:=(m >>> (1:Int).toNat) &&& (6148914691236517205#64)) (b:=m &&& (6148914691236517205#64)) rfl rfl) (Ga rfl ?_))))))))))
 generalize hm1:((m >>> (1:Int).toNat) &&& (6148914691236517205#64))+(m &&& (6148914691236517205#64))=m1
 refine Af (Ah (Gm rfl (Gr (Ef (a:=m1) rfl rfl om om) (Gr (Cr (a:=m1 >>> (2:Int).toNat) (b:=3689348814741910323#64) rfl rfl) (Gm rfl (Gr (Cr (a:=m1) (b:=3689348814741910323#64) rfl rfl) (Gr (Runs.addB (a:=(m1 >>> (2:Int).toNat) &&& (3689348814741910323#64)) (b:=m1 &&& (3689348814741910323#64)) rfl rfl) (Ga rfl ?_))))))))
 generalize hm2:((m1 >>> (2:Int).toNat) &&& (3689348814741910323#64))+(m1 &&& (3689348814741910323#64))=m2
 refine Af (Ar (S1 0 rfl) (Ah (Gm rfl (Gr (Ef (a:=m2) rfl rfl om om) (Gm rfl (Gr (Runs.addB (a:=m2 >>> (4:Int).toNat) (b:=m2) rfl rfl) (Gr (Cr (a:=(m2 >>> (4:Int).toNat)+m2) (b:=1085102592571150095#64) rfl rfl) (Ga rfl ?_))))))))
 generalize hm3:((m2 >>> (4:Int).toNat)+m2) &&& (1085102592571150095#64)=m3
 refine Af (Ah (Gm rfl (Gm rfl (Gr (Ef (a:=m3) rfl rfl om om) (Gr (Runs.addB (a:=m3) (b:=m3 >>> (8:Int).toNat) rfl rfl) (Ga rfl ?_))))))
 generalize hm4:m3+(m3 >>> (8:Int).toNat)=m4
 refine Af (Ah (Gm rfl (Gm rfl (Gr (Ef (a:=m4) rfl rfl om om) (Gr (Runs.addB (a:=m4) (b:=m4 >>> (16:Int).toNat) rfl rfl) (Ga rfl ?_))))))
 generalize hm5:m4+(m4 >>> (16:Int).toNat)=m5
 refine Af (Ar (S1 0 rfl) (Ah (Gm rfl (Gm rfl (Gr (Ef (a:=m5) rfl rfl om om) (Gr (Runs.addB (a:=m5) (b:=m5 >>> (32:Int).toNat) rfl rfl) (Ga rfl ?_)))))))
 generalize hm6:m5+(m5 >>> (32:Int).toNat)=m6
 exact Af (Ah (Gm rfl (Gr (Runs.toI C4 Be rfl (by subst hm6 hm5 hm4 hm3;exact ones_small _)) (Gr (Runs.and127 rfl rfl om) (Ga rfl (Af (Az (A4 rfl rfl (I) Ax ⟨by subst hm6 hm5 hm4 hm3 hm2 hm1;rfl,rfl⟩))))))))
theorem MCount_ok(m:BitVec 64) :
    CallS Tryz.prog κ 219 [U64 (m)] I (fun r J=>r=I64 (onesB m)∧I=J):=by
 refine Ce1 Tryz.func219 rfl rfl ?_
 refine Ah (Ga rfl (Af (Ah (Gm rfl (Gc0 (Al call271 rfl rfl (OnesCount_ok m)) ?_)))))
 exact Ga rfl (Af (Az (A4 rfl rfl (I) Ax ⟨rfl,rfl⟩)))
theorem bitB_two{v:Int}(h0:0≤v)(h1:v<64):bitB v=BitVec.twoPow 64 v.toNat:=by
 unfold bitB;rw [if_neg om];rfl
theorem getLsb_bitB{v:Int}{i:Nat}(hi:i<64):(bitB v).getLsbD i=decide (v=(i:Int)):=by
 by_cases h:0≤v∧v<64
 ·rw [bitB_two h.1 h.2,BitVec.getLsbD_twoPow]
  have e:(v.toNat=i)↔(v=(i:Int)):=by omega
  simp [hi,h,e]
 ·unfold bitB
  rw [if_pos om]
  have:¬v=(i:Int):=by omega
  simp [this]
theorem getLsb_maskB{i:Nat}(hi:i<64):∀(l:List Int) (m:BitVec 64),(l.foldl (fun m v=>m ||| bitB v) m).getLsbD i=(m.getLsbD i||decide ((i:Int)∈l))
 |[],m=>by simp
 |v::l,m=>by
  rw [List.foldl_cons,getLsb_maskB hi l,BitVec.getLsbD_or,getLsb_bitB hi]
  by_cases h1:v=(i:Int)
  ·simp [h1]
  ·have:¬(i:Int)=v:=fun e=>h1 e.symm
   simp [h1,this]
variable {κ:Ctx}{I:List Item}
structure Fr where
 num:Int
 den:Int
deriving DecidableEq
instance:Inhabited Fr:=⟨⟨0,0⟩⟩
instance:Enc Fr:=⟨fun r=>[I64 r.num,I64 r.den],2,by omega,fun _=>rfl,fun r u hu=>by
 simp only [List.mem_cons,List.not_mem_nil,or_false] at hu
 rcases hu with rfl|rfl<;>rfl⟩
theorem eqt40:EqT Tryz.prog 40 Fr:=EqT.flat (fun p:Fr=>[p.num,p.den]) (fun _=>rfl) (fun x y h=>by cases x;cases y;simpa using h) (n:=2) (fun _=>rfl) kr kr kr kr kr
def gcdI(a b:Int):Int:=((a.toNat.gcd b.toNat:Nat):Int)
theorem gcdI_step{a b:Int}(h0:0≤a)(h1:0<b):gcdI b (Int.tmod a b)=gcdI a b:=by
 unfold gcdI
 rw [Int.tmod_eq_emod_of_nonneg h0,show (a % b).toNat=a.toNat % b.toNat by rw [Int.toNat_emod h0 om]]
 congr 1
 rw [Nat.gcd_comm a.toNat b.toNat,Nat.gcd_rec b.toNat a.toNat,Nat.gcd_comm]
theorem gcdI_zero{a:Int}(h0:0≤a):gcdI a 0=a:=by unfold gcdI;simp;omega
theorem gcdI_pos{a b:Int}(h1:0<b):0<gcdI a b:=by
 unfold gcdI
 have:0<a.toNat.gcd b.toNat:=Nat.gcd_pos_of_pos_right _ om
 omega
theorem gcdI_le{a b:Int}(h1:0<b):gcdI a b≤b:=by
 unfold gcdI
 have:a.toNat.gcd b.toNat≤b.toNat:=Nat.le_of_dvd om (Nat.gcd_dvd_right _ _)
 omega
def mkF(a b:Int):Fr:=⟨a / gcdI a b,b / gcdI a b⟩
theorem mkF_num{a b:Int}(h0:0≤a)(h1:0<b):0≤(mkF a b).num∧(mkF a b).num≤a:=⟨Int.ediv_nonneg h0 (by have:=gcdI_pos (a:=a) h1;omega),Int.ediv_le_self _ h0⟩
theorem mkF_den{a b:Int}(h1:0<b):1≤(mkF a b).den∧(mkF a b).den≤b:=by
 have hg:=gcdI_pos (a:=a) h1
 have hl:=gcdI_le (a:=a) h1
 exact ⟨(Int.le_ediv_iff_mul_le hg).2 om,Int.ediv_le_self _ om⟩
theorem RWithin_ok(n m:Int)(h:0≤m∧m≤9223372036854775807) :
    CallS Tryz.prog κ 157 [I64 (n),I64 (m)] I (fun r J=>r = .bool (decide (-m≤n∧n≤m))∧I=J):=by
 refine Ce2 Tryz.func157 rfl rfl ?_
 refine Ah (Ga rfl (Af (Ah (Gm rfl (Gm rfl (Gr (Runs.neg rfl (by unfold InR;omega)) (Gr (Ca rfl rfl) (Gm rfl (Bk (d:=9) rfl (fun g9=>?_) (fun g9=>?_))))))))))
 ·exact Gro (Ad rfl) (Gro (Ad rfl) (Gro (Dv rfl rfl) (Gr (As rfl rfl) (Ga rfl (Af (Ar (S1 4 rfl) (Az (A4 rfl rfl (I) Ax ⟨(by first|exact congrArg Value.bool (decide_eq_decide.2 (by skip;omega))|exact congrArg Value.bool (decide_eq_true (by skip;omega)).symm|exact congrArg Value.bool (decide_eq_false (by skip;omega)).symm),rfl⟩))))))))
 ·exact Gpo (Gpo (Gpo (Gr (Au rfl rfl) (Ga rfl (Af (Ar (S1 4 rfl) (Az (A4 rfl rfl (I) Ax ⟨(by first|exact congrArg Value.bool (decide_eq_decide.2 (by skip;omega))|exact congrArg Value.bool (decide_eq_true (by skip;omega)).symm|exact congrArg Value.bool (decide_eq_false (by skip;omega)).symm),rfl⟩))))))))
theorem Common_ok(a b:Int)(h0:0≤a)(h1:0≤b) :
    CallS Tryz.prog κ 158 [I64 (a),I64 (b)] I (fun r J=>r=I64 (gcdI a b)∧I=J):=by
 refine Ce2 Tryz.func158 rfl rfl ?_
 refine Ah (Ga rfl (Af (Ap (A3 (Bv (σ:=Int×Int) (fun s=>([(0,I64 (s.1)),(1,I64 (s.2))]:Env)) (fun s=>I) (fun s=>(0≤s.1)∧(0≤s.2)∧(gcdI s.1 s.2=gcdI a b)) (fun s=>s.2.toNat) (a,b) (show (0≤(a:Int))∧(0≤(b:Int))∧(gcdI (a:Int) (b:Int)=gcdI a b) from ⟨om,om,rfl⟩) (Ab Cc (Ab Cc Bj)) (show Fit κ _ (I) from Ay) ?_)))))
 rintro ⟨x,y⟩ hp
 dsimp only at hp ⊢
 obtain ⟨hx,hy,hg⟩:=hp
 refine Ap (Ah (Gm rfl (Gr (Br rfl rfl) (Af (A9 rfl (fun c6=>?_) (fun c6=>?_))))))
 ·refine A1 (Ai (A3 (Bd mixed (Bl (I) 6 (Dr 0 rfl (Ad rfl) (Dr 1 rfl (Ad rfl) (Dr 2 rfl (Ad rfl) (Dr 3 rfl (Runs.rem rfl rfl om) (Dr 4 rfl (A6 rfl) (Dr 5 rfl (A6 rfl) (Dz (Aj ?_))))))))))))
  have hm0:=Int.tmod_nonneg y (a:=x) hx
  have hm1:=Int.tmod_lt_of_pos x (b:=y) om
  exact B7 ((y),(Int.tmod x y)) (by dsimp only;exact ⟨om,om,((gcdI_step hx om).trans hg)⟩)
 ·refine Bs (Am (Am (A7 (Ai (Ah (Gm rfl (Ga rfl (Af (Az ?_)))))))))
  have hy0:y=0:=by omega
  subst hy0
  exact A4 rfl rfl (I) Ax ⟨by rw [←hg,gcdI_zero hx],rfl⟩
theorem Checked_ok(x:Fr)(h:0≤x.num∧x.num≤1152921504606846976∧x.den≤1152921504606846976) :
    CallS Tryz.prog κ 309 [.agg #[I64 (x.num),I64 (x.den)]] I (fun r J=>r = .tuple #[.agg #[I64 x.num,I64 x.den],I64 0]∧I=J):=by
 refine Ce1 Tryz.func309 rfl rfl ?_
 refine Ah (Ge1 (Bc (cs:=[_,_]) rfl rfl rfl) fun b1=>Ge1 (A8 ty40 rfl) fun b2=>Ga rfl (Af (Ap (Ah (Gf fld40_0 rfl (Gl ty3 ?_))))))
 refine G.e (Al call157 rfl rfl (RWithin_ok x.num 1152921504606846976 om)) ?_
 rintro _ _ ⟨_,_,⟨rfl,rfl⟩,rfl,rfl⟩
 refine Gr (Dp rfl) (Gm rfl (Bk (d:=8) rfl (fun g8=>?_) (fun g8=>?_)))
 ·exact absurd h om
 ·refine Gro (Ac fld40_1 rfl) (Gro (Av ty3) ?_)
  refine Gro (B2 rfl rfl) (Gr (Au rfl rfl) (Af (Ar (S3 12 2 1 rfl rfl rfl) (A9 rfl (fun c12=>?_) (fun c12=>?_)))))
  ·exact absurd h om
  ·refine A1 (Ai (Ah (Gl2 ty40 ?_)))
   refine Ge0 (Co ty40) ?_
   exact Ga rfl (Af (Az (Dj rfl ty40 rfl rfl mm rfl (I) Ax ⟨rfl,rfl⟩)))
theorem Lowest_ok(a b:Int)(h0:0≤a∧a≤1152921504606846976)(h1:0<b∧b≤1152921504606846976) :
    CallS Tryz.prog κ 272 [I64 (a),I64 (b)] I (fun r J=>r = .tuple #[.agg #[I64 (mkF a b).num,I64 (mkF a b).den],I64 0]∧I=J):=by
 refine Ce2 Tryz.func272 rfl rfl ?_
 refine Ah (Ge1 (A8 ty40 rfl) fun b1=>Ga rfl (Af (Ap (Ah (Gm rfl (Gr (Bb rfl rfl) (Af (A9 rfl (fun c8=>?_) (fun c8=>?_)))))))))
 ·exact absurd c8 om
 ·refine A1 (Ai (Ah (Gm rfl (Gm rfl (Gr (Runs.neg rfl (by unfold InR;omega)) (Gr (Ei rfl rfl) (Gm rfl (Gc0 (Al call158 rfl rfl (Common_ok (if a<(-(a)) then (-(a)) else a) b (by split<;>omega) om)) ?_))))))))
  refine Ga rfl ?_
  have hmx:(if a < -a then -a else a)=a:=by rw [if_neg om]
  rw [hmx]
  refine Af (Ar (S4 6 4 0 1 rfl rfl rfl rfl) (Ap (Bd mixed (Bl (blk b1 [I64 (0),I64 (0)] 40::I) 10 (Dr 0 rfl (Ad rfl) ?_)))))
  have hgp:=gcdI_pos (a:=a) h1.1
  refine Dr 1 rfl (Ad rfl) (Dr 2 rfl (Runs.quo rfl rfl om om (by unfold InR;omega)) (Dr 3 rfl (Ad rfl) (Dr 4 rfl (Ad rfl) (Dr 5 rfl (Runs.quo rfl rfl om om (by unfold InR;omega)) (Dr 6 rfl (Bg (cells:=[_,_]) ty40 Eb pl40 rfl rfl) (Ds1 7 (Sc0 rfl (Al call309 rfl rfl (Checked_ok (⟨a / (gcdI a b),b / (gcdI a b)⟩:Fr) (by have hn:=mkF_num h0.1 h1.1;have hd:=mkF_den (a:=a) h1.1;exact ⟨hn.1,by have:=hn.2;show (mkF a b).num≤_;omega,by have:=hd.2;show (mkF a b).den≤_;omega⟩))) ?_)))))))
  refine Dr 8 rfl (Aw rfl rfl) (Dr 9 rfl (Aw rfl rfl) (Cy kr ?_))
  refine Ae 10 rfl (Co ty40) ?_
  rintro _ _ ⟨rfl,rfl⟩
  refine A.read (i:=11) kr rfl (B9 rfl) rfl rfl (A6 rfl) ?_
  refine Cz kr ?_
  exact Ai (Ar (S2 5 4 rfl rfl) (Az (Dj rfl ty40 rfl rfl mm rfl (I) Ax ⟨rfl,rfl⟩)))
theorem MakeF_ok(a b:Int)(h0:0≤a∧a≤1152921504606846976)(h1:0<b∧b≤1152921504606846976) :
    CallS Tryz.prog κ 220 [I64 (a),I64 (b)] I (fun r J=>r = .tuple #[.agg #[I64 (mkF a b).num,I64 (mkF a b).den],I64 0]∧I=J):=by
 refine Ce2 Tryz.func220 rfl rfl ?_
 refine Ah (Ge1 (A8 ty40 rfl) fun b1=>Ga rfl (Af (Ap (A3 (Ah (Gm rfl (Gr (Bm rfl rfl) (Ga rfl (Af (A9 rfl (fun c6=>?_) (fun c6=>?_)))))))))))
 ·exact absurd c6 om
 ·refine Ah (Gm rfl (G.e (Al call157 rfl rfl (RWithin_ok a 4611686018427387904 om)) ?_))
  rintro _ _ ⟨_,_,⟨rfl,rfl⟩,rfl,rfl⟩
  refine Gm rfl (Bk (d:=13) rfl (fun g13=>?_) (fun g13=>?_))
  ·refine Gro (Ad rfl) (G.eff (Cq rfl rfl rfl) (Al call157 rfl rfl (RWithin_ok b 4611686018427387904 om)) ?_)
   rintro _ _ ⟨_,_,⟨rfl,rfl⟩,rfl,rfl⟩
   refine Gr (As rfl rfl) (Ga rfl (Af (Ar (S4 10 4 0 1 rfl rfl rfl rfl) (A9 rfl (fun c10=>?_) (fun c10=>?_)))))
   ·refine Ah (Gm rfl (Gm rfl (Gc0 (Al call272 rfl rfl (Lowest_ok a b om om)) ?_)))
    refine Gr (Aw rfl rfl) (Gr (Aw rfl rfl) (Ge0 (Co ty40) ?_))
    exact Ga rfl (Af (Az (Ao (Ak (Dj rfl ty40 rfl rfl mm rfl (I) Ax ⟨rfl,rfl⟩)))))
   ·exact absurd om c10
  ·exact absurd om g13
theorem addRow_no{rows:List (BitVec 64)}{e:Pt}(h:¬(0≤e.u∧e.u<e.v∧e.v<rows.length)):addRow rows e=rows:=by unfold addRow;rw [if_neg h]
theorem MRows_ok{κ:Ctx}{I:List Item}{nd:Int}{v:Value}{es:List Pt}(hl:Sl κ I v es) :
    CallS Tryz.prog κ 198 [.agg #[I64 (nd),v]] I (fun r J=>∃a c,r = .slice a (rowsB nd es).length c∧J=vc 175 (.slice a (rowsB nd es).length c) (rowsB nd es)::I):=by
 refine B4 hl.le fun hmax=>?_
 refine Ce1 Tryz.func198 rfl rfl ?_
 refine Ah (Ge1 (Bc (cs:=[_,_]) rfl rfl rfl) fun b1=>Ga rfl (Af (Ah (Gf fld48_0 rfl (Gl ty3 ?_)))))
 refine Gr (Ei rfl rfl) (Gr (Runs.min rfl rfl) (Ge2 (Cj (α:=(BitVec 64)) (n:=(min (max nd 0) 64).toNat) B6 ty175 rfl rfl rfl om om dc rfl) fun ad2 cp3=>?_))
 refine Ga rfl ?_
 have hrep:(List.replicate (min (max nd 0) 64).toNat (default:(BitVec 64))).length=(min (max nd 0) 64).toNat:=List.length_replicate
 refine Af (Ap (Ah (Gf fld48_1 rfl (Gl ty46 ?_))))
 refine Gr (Bw (α:=Pt) (xs:=es) B1 rfl (Bi hl)) (Gm rfl (Af (A3 (Bv (σ:=Nat×(List (BitVec 64))) (fun s=>([(3,.slice ad2 (List.replicate ((min (max nd 0) 64).toNat) (default:(BitVec 64))).length cp3),(12,v),(13,I64 (((es.length:Nat):Int))),(14,I64 (((s.1:Nat):Int)))]:Env)) (fun s=>vc 175 (.slice ad2 (List.replicate ((min (max nd 0) 64).toNat) (default:(BitVec 64))).length cp3) (s.2)::blk b1 [I64 (nd),v] 48::I) (fun s=>(s.1≤es.length)∧(s.2=rowsB nd (es.take s.1))∧(s.2.length=(min (max nd 0) 64).toNat)) (fun s=>es.length - s.1) (0,List.replicate (min (max nd 0) 64).toNat (default:(BitVec 64))) (show ((0:Nat)≤es.length)∧((List.replicate (min (max nd 0) 64).toNat (default:(BitVec 64)):List (BitVec 64))=rowsB nd (es.take (0:Nat)))∧((List.replicate (min (max nd 0) 64).toNat (default:(BitVec 64)):List (BitVec 64)).length=(min (max nd 0) 64).toNat) from ⟨om,rfl,(by simp)⟩) (Ab rfl (Ab rfl (Ab rfl (Ab Cc Bj)))) (show Fit κ _ (vc 175 (.slice ad2 (List.replicate ((min (max nd 0) 64).toNat) (default:(BitVec 64))).length cp3) ((List.replicate (min (max nd 0) 64).toNat (default:(BitVec 64))))::blk b1 [I64 (nd),v] 48::I) from Ay) ?_))))
 rintro ⟨k,rows⟩ hp
 dsimp only at hp ⊢
 obtain ⟨hk,hr,hrl⟩:=hp
 refine Ah (Gr (Bb rfl rfl) (Af (Ap (A9 rfl (fun c15=>?_) (fun c15=>?_)))))
 ·refine A1 (Ai (Ap (A3 (Ah (Gr (A0 (α:=Pt) (xs:=es) B1 ty135 rfl rfl (Bi hl) om oo) (Gr (Bu (α:=Pt) (xs:=es) ty135 rfl (Bi hl) om oo) (Ge1 (A8 ty135 rfl) fun b4=>Ge0 (Co ty135) ?_)))))))
  refine Af (Ah (Gf fld135_0 rfl (Gl ty3 ?_)))
  refine Gr (Ca rfl rfl) (Gm rfl (Bk (d:=21) rfl (fun g21=>?_) (fun g21=>?_)))
  ·refine Gro (Ac fld135_0 rfl) (Gro (Av ty3) ?_)
   refine Gro (Ac fld135_1 rfl) (Gro (Av ty3) ?_)
   refine Gro (Bb rfl rfl) (Gr (As rfl rfl) (Gm rfl (Bk (d:=28) rfl (fun g28=>?_) (fun g28=>?_))))
   ·refine Gro (Ac fld135_1 rfl) (Gro (Av ty3) ?_)
    refine Gro (Ad rfl) (Gro (Bq B6 rfl) (Gro (Bb rfl rfl) (Gr (As rfl rfl) (Af (Ar (S6 34 5 3 12 13 14 rfl rfl rfl rfl rfl rfl) (A9 rfl (fun c34=>?_) (fun c34=>?_)))))))
    ·refine Ap (Bd mixed (Bl (blk b4 [I64 ((at_ es (k:Int)).u),I64 ((at_ es (k:Int)).v)] 135::vc 175 (.slice ad2 (List.replicate ((min (max nd 0) 64).toNat) (default:(BitVec 64))).length cp3) (rows)::blk b1 [I64 (nd),v] 48::I) 10 (Dr 0 rfl (Ad rfl) (Dr 1 rfl (Ac fld135_0 rfl) (Dr 2 rfl (Av ty3) ?_)))))
     refine Dr 3 rfl (A0 (α:=(BitVec 64)) (xs:=rows) B6 ty175 rfl rfl Bf om oo) (Dr 4 rfl (Dg (α:=(BitVec 64)) (xs:=rows) (u:=U64 ((at_ rows ((at_ es (k:Int)).u)))) ty175 rfl Bf om oo rfl) (Dr 5 rfl (Ac fld135_1 rfl) (Dr 6 rfl (Av ty3) ?_)))
     refine Dr 7 rfl (Runs.shlB (a:=1#64) rfl rfl om om) (Dr 8 rfl (Eg (a:=(at_ rows ((at_ es (k:Int)).u))) (b:=(1#64) <<< ((at_ es (k:Int)).v).toNat) rfl rfl) (Dr 9 rfl (A0 (α:=(BitVec 64)) (xs:=rows) B6 ty175 rfl rfl Bf om oo) (Cy kr ?_)))
     refine Ae 10 rfl (Cw (α:=(BitVec 64)) (xs:=rows) (e:=175) (new:=(at_ rows ((at_ es (k:Int)).u)) ||| ((1#64) <<< ((at_ es (k:Int)).v).toNat)) ty175 rfl rfl rfl om oo am) ?_
     rintro _ _ ⟨rfl,rfl⟩
     refine Cz kr ?_
     refine Ai (Ar (S5 5 3 12 13 14 rfl rfl rfl rfl rfl) (Bd mixed (Bl (blk b4 [I64 ((at_ es (k:Int)).u),I64 ((at_ es (k:Int)).v)] 135::vc 175 (.slice ad2 (List.replicate ((min (max nd 0) 64).toNat) (default:(BitVec 64))).length cp3) (List.set rows ((at_ es (k:Int)).u).toNat ((at_ rows ((at_ es (k:Int)).u)) ||| ((1#64) <<< ((at_ es (k:Int)).v).toNat)))::blk b1 [I64 (nd),v] 48::I) 10 (Dr 0 rfl (Ad rfl) (Dr 1 rfl (Ac fld135_1 rfl) (Dr 2 rfl (Av ty3) ?_))))))
     refine Dr 3 rfl (A0 (α:=(BitVec 64)) (xs:=List.set rows ((at_ es (k:Int)).u).toNat ((at_ rows ((at_ es (k:Int)).u)) ||| ((1#64) <<< ((at_ es (k:Int)).v).toNat))) B6 ty175 rfl rfl Bf om oo) (Dr 4 rfl (Dg (α:=(BitVec 64)) (xs:=List.set rows ((at_ es (k:Int)).u).toNat ((at_ rows ((at_ es (k:Int)).u)) ||| ((1#64) <<< ((at_ es (k:Int)).v).toNat))) (u:=U64 ((at_ (List.set rows ((at_ es (k:Int)).u).toNat ((at_ rows ((at_ es (k:Int)).u)) ||| ((1#64) <<< ((at_ es (k:Int)).v).toNat))) ((at_ es (k:Int)).v)))) ty175 rfl Bf om oo rfl) (Dr 5 rfl (Ac fld135_0 rfl) (Dr 6 rfl (Av ty3) ?_)))
     refine Dr 7 rfl (Runs.shlB (a:=1#64) rfl rfl om om) (Dr 8 rfl (Eg (a:=(at_ (List.set rows ((at_ es (k:Int)).u).toNat ((at_ rows ((at_ es (k:Int)).u)) ||| ((1#64) <<< ((at_ es (k:Int)).v).toNat))) ((at_ es (k:Int)).v))) (b:=(1#64) <<< ((at_ es (k:Int)).u).toNat) rfl rfl) (Dr 9 rfl (A0 (α:=(BitVec 64)) (xs:=List.set rows ((at_ es (k:Int)).u).toNat ((at_ rows ((at_ es (k:Int)).u)) ||| ((1#64) <<< ((at_ es (k:Int)).v).toNat))) B6 ty175 rfl rfl Bf om oo) (Cy kr ?_)))
     refine Ae 10 rfl (Cw (α:=(BitVec 64)) (xs:=List.set rows ((at_ es (k:Int)).u).toNat ((at_ rows ((at_ es (k:Int)).u)) ||| ((1#64) <<< ((at_ es (k:Int)).v).toNat))) (e:=175) (new:=(at_ (List.set rows ((at_ es (k:Int)).u).toNat ((at_ rows ((at_ es (k:Int)).u)) ||| ((1#64) <<< ((at_ es (k:Int)).v).toNat))) ((at_ es (k:Int)).v)) ||| ((1#64) <<< ((at_ es (k:Int)).u).toNat)) ty175 rfl rfl rfl om oo am) ?_
     rintro _ _ ⟨rfl,rfl⟩
     refine Cz kr ?_
     refine Aj (Ai (Ar (S4 3 12 13 14 rfl rfl rfl rfl) (A2 (Gr (Rad rfl rfl) (Gm rfl (Bh ?_))))))
     have hset:List.set (List.set rows ((at_ es (k:Int)).u).toNat ((at_ rows ((at_ es (k:Int)).u)) ||| ((1#64) <<< ((at_ es (k:Int)).v).toNat))) ((at_ es (k:Int)).v).toNat ((at_ (List.set rows ((at_ es (k:Int)).u).toNat ((at_ rows ((at_ es (k:Int)).u)) ||| ((1#64) <<< ((at_ es (k:Int)).v).toNat))) ((at_ es (k:Int)).v)) ||| ((1#64) <<< ((at_ es (k:Int)).u).toNat))=addRow rows (at_ es (k:Int)):=by unfold addRow;rw [if_pos om]
     rw [hset]
     exact B7 ((k+1),(addRow rows (at_ es (k:Int)))) (by dsimp only;exact ⟨om,(by rw [rowsB_take om,←hr];first|done|exact hset),(by first|exact hrl|(rw [addRow_len];exact hrl))⟩)
    ·refine A1 (Aj (Ai (A2 (Gr (Rad rfl rfl) (Gm rfl (Bh ?_))))))
     have hset:rows=addRow rows (at_ es (k:Int)):=(addRow_no om).symm
     exact B7 ((k+1),(rows)) (by dsimp only;exact ⟨om,(by rw [rowsB_take om,←hr];first|done|exact hset),(by first|exact hrl|(rw [addRow_len];exact hrl))⟩)
   ·refine Gpo (Gpo (Gpo (Gpo (Gpo (Gr (Au rfl rfl) (Af (Ar (S6 34 5 3 12 13 14 rfl rfl rfl rfl rfl rfl) (D0 rfl (A1 (Aj (Ai (A2 (Gr (Rad rfl rfl) (Gm rfl (Bh ?_)))))))))))))))
    have hset:rows=addRow rows (at_ es (k:Int)):=(addRow_no om).symm
    exact B7 ((k+1),(rows)) (by dsimp only;exact ⟨om,(by rw [rowsB_take om,←hr];first|done|exact hset),(by first|exact hrl|(rw [addRow_len];exact hrl))⟩)
  ·refine Gpo (Gpo (Gpo (Gpo (Gpo (Gr (Au rfl rfl) (Gm rfl (Gpo (Gpo (Gpo (Gpo (Gpo (Gr (Au rfl rfl) (Af (Ar (S6 34 5 3 12 13 14 rfl rfl rfl rfl rfl rfl) (D0 rfl (A1 (Aj (Ai (A2 (Gr (Rad rfl rfl) (Gm rfl (Bh ?_))))))))))))))))))))))
   have hset:rows=addRow rows (at_ es (k:Int)):=(addRow_no om).symm
   exact B7 ((k+1),(rows)) (by dsimp only;exact ⟨om,(by rw [rowsB_take om,←hr];first|done|exact hset),(by first|exact hrl|(rw [addRow_len];exact hrl))⟩)
 ·refine Bs (Am (Am (A7 (Ai (Ah (Gm rfl (Ga rfl (Af (Az ?_)))))))))
  rw [List.take_of_length_le om] at hr
  subst hr
  have hle:(rowsB nd es).length=(List.replicate (min (max nd 0) 64).toNat (default:(BitVec 64))).length:=by omega
  exact A4 rfl rfl (vc 175 (.slice ad2 (rowsB nd es).length cp3) (rowsB nd es)::I) (by rw [hle];exact Ay) ⟨_,_,by rw [hle],rfl⟩
section
variable {P:Program}{κ:Ctx}{N:Frm}{L:Env}{I J:List Item}{d:Option Tmp}{ty:TypeId}{ps:String}{af:Array Edge}{gd:Option (Nat×Bool)}
theorem vc.isSome{α:Type}[Enc α]{xs:List α}{e:TypeId}{ad:Option Addr}{n c:Nat}(h:vc e (.slice ad n c) xs∈I):∀w,Sep κ w I→(0<xs.length→ad≠none):=fun w hs hlt=>by
 obtain ⟨b,o,cap,h0,_⟩:=((Sl.vec (κ:=κ) h) w hs).some hlt
 cases h0
 exact fun hh=>by cases hh
theorem Runs.idxs(α:Type)[Enc α]{x y:Operand}{T E by' n c:Nat}{ag:Bool}{z:List Value}{ad:Option Addr}{i:Int}(ht:P.underlying T=some (.slice E))(hE:tyF P E=some (Enc.sz α,ag,by',z))(hx:evalO L x=some (.slice ad n c))
  (hy:evalO L y=some (I64 i)) (ha:ad≠none) (h0:0≤i) (hn:i<n):Runs P κ N ⟨d,.indexAddr T x y,ty,ps,af,gd⟩ L J (elemPtr (.slice ad n c) (i.toNat*Enc.sz α)):=by
 cases ad with
 |none=>exact absurd rfl ha
 |some ad=>exact fun a w ha hs=>by simp [execOp,ha.eval hx,ha.eval hy,Instr.indexAt,asIntOf,run_underlying ht,h0,hn,run_sizeOf hE,elemPtr]
end
variable {κ:Ctx}{I:List Item}
theorem ApplyP_ok{nd:Int}{e:Ev}{a0:Option Addr}{c0:Nat}{xs:List Lk}(hv:checkS nd xs=0)(hf:FitOk nd e)(hsz:xs.length≤100000) :
    CallS Tryz.prog κ 141 [.agg #[I64 (nd),.slice a0 xs.length c0],.agg #[I64 (e.kd),I64 (e.tm),I64 (e.u),I64 (e.v),I64 (e.w),I64 (e.lb),I64 (e.sg)]] (vc 146 (.slice a0 xs.length c0) (xs)::I) (fun r J=>∃a c w,r = .tuple #[.agg #[I64 nd,.slice a (stepL xs e).length c],w,I64 0]∧J=vc 146 (.slice a (stepL xs e).length c) (stepL xs e)::I):=by
 refine Ce2 Tryz.func141 rfl rfl ?_
 refine Ah (Ge1 (Bc (cs:=[_,_]) rfl rfl rfl) fun b1=>Ge1 (Bc (cs:=[_,_,_,_,_,_,_]) rfl rfl rfl) fun b2=>Ge1 (A8 ty111 rfl) fun b3=>Ga rfl (Ga rfl (Af (Ah (Gl2 ty111 ?_)))))
 refine G.e (Al call214 rfl rfl (CheckS_ok (nd:=nd) Bf)) ?_
 rintro _ _ ⟨_,_,⟨rfl,rfl⟩,rfl,rfl⟩
 refine Ga rfl (Af (Ap (Ah (Gm rfl (Gr (Bm rfl rfl) (Af (A9 rfl (fun c13=>?_) (fun c13=>?_))))))))
 ·refine A2 (Gf fld111_0 rfl (Gl ty3 ?_))
  refine Gl7 ty108 ?_
  refine Gc0 (Al call210 rfl rfl (FitsE_ok nd e)) ?_
  refine Ga rfl (Af (Ar (S4 7 4 3 2 rfl rfl rfl rfl) (Ap (Ah (Gm rfl (Gr (Br rfl rfl) (Af (A9 rfl (fun c19=>?_) (fun c19=>?_)))))))))
  ·exact absurd (fitE_ok.2 hf) c19
  ·refine A1 (Ai (Ah (Gl2 ty111 ?_)))
   refine Gl7 ty108 ?_
   refine G.e (Al call215 rfl rfl (StepP_at (by repeat (first|exact AtF.head _ _|apply AtF.tail)) rfl (checkS_ok hv).2.2 om)) ?_
   rintro _ _ ⟨_,_,⟨⟨ad4,cp5,wv6⟩,rfl,rfl⟩,rfl,rfl⟩
   show G Tryz.prog κ _ _ _ _ ([(25,.tuple #[.agg #[I64 (nd),.slice ad4 (stepL xs e).length cp5],wv6]),(24,.agg #[I64 (e.kd),I64 (e.tm),I64 (e.u),I64 (e.v),I64 (e.w),I64 (e.lb),I64 (e.sg)]),(23,.agg #[I64 (nd),.slice a0 xs.length c0]),(19,.bool (decide ((fitE nd e)≠0))),(18,I64 (fitE nd e)),(7,I64 (fitE nd e)),(4,.pointer (some ⟨b3,0,none⟩)),(3,.pointer (some ⟨b2,0,none⟩)),(2,.pointer (some ⟨b1,0,none⟩))]:Env) (blk b3 [I64 (0),.slice none 0 0] 111::blk b2 [I64 (e.kd),I64 (e.tm),I64 (e.u),I64 (e.v),I64 (e.w),I64 (e.lb),I64 (e.sg)] 108::blk b1 [I64 (nd),.slice a0 xs.length c0] 111::vc 146 (.slice ad4 (stepL xs e).length cp5) (stepL xs e)::I)
   refine Gm rfl (Gr (Aw rfl rfl) (Gr (Aw rfl rfl) (Ge1 (A8 ty111 rfl) fun b7=>Ge0 (Co ty111) ?_)))
   refine Ga rfl (Af (Ar (S3 9 8 4 rfl rfl rfl) (Ah (Gf fld111_1 rfl (Gl ty109 ?_)))))
   refine G.e (Al call216 rfl rfl (CloneL (xs:=stepL xs e) Bf (by have h:=stepL_len xs e;omega))) ?_
   rintro _ _ ⟨_,_,⟨ad8,cp9,rfl,rfl⟩,rfl,rfl⟩
   refine Gf fld111_1 rfl (Ge0 (Es2_1 ty109) ?_)
   refine Af (Ah (Gl2 ty111 ?_))
   refine Gm rfl (Ge0 (Co ty111) ?_)
   exact Ga rfl (Ga rfl (Af (Az (V.retc2 rfl ty111 rfl rfl rfl mm rfl (vc 146 (.slice ad8 (stepL xs e).length cp9) (stepL xs e)::I) Bt ⟨ad8,cp9,wv6,rfl,rfl⟩))))
 ·exact absurd hv c13
theorem edgesK_take{xs:List Lk}{k:Nat}(h:k<xs.length):edgesK (xs.take (k+1))=edgesK (xs.take k)++[(⟨(at_ xs (k:Int)).u,(at_ xs (k:Int)).v⟩:Pt)]:=by
 unfold edgesK;rw [C7 xs k h,List.map_append];rfl
theorem LEdges_ok{nd:Int}{va:Value}{xs:List Lk}(hl:Sl κ I va xs)(hsz:xs.length≤100000) :
    CallS Tryz.prog κ 231 [.agg #[I64 (nd),va]] I (fun r J=>∃a c,r = .agg #[I64 nd,.slice a (edgesK xs).length c]∧J=vc 135 (.slice a (edgesK xs).length c) (edgesK xs)::I):=by
 refine B4 hl.le fun hmax=>?_
 refine Ce1 Tryz.func231 rfl rfl ?_
 refine Ah (Ge1 (Bc (cs:=[_,_]) rfl rfl rfl) fun b1=>Ge1 (A8 ty48 rfl) fun b2=>Af (Ah (Gf fld111_0 rfl (Gl ty3 ?_))))
 refine Gr (Bg (cells:=[_,_]) ty48 Tryz.underlying48 pl48 rfl rfl) (Ge1 (A8 ty48 rfl) fun b3=>Ge0 (Co ty48) ?_)
 refine Af (Ap (Ah (Gf fld111_1 rfl (Gl ty109 ?_))))
 refine Gr (Bw (α:=Lk) (xs:=xs) Aq rfl (Bi hl)) (Gm rfl (Af (A3 (Bv (σ:=Nat×(Option Addr)×Nat×(List Pt)) (fun s=>([(2,.pointer (some ⟨b2,0,none⟩)),(3,.pointer (some ⟨b3,0,none⟩)),(10,va),(11,I64 (((xs.length:Nat):Int))),(12,I64 (((s.1:Nat):Int)))]:Env)) (fun s=>vc 135 (.slice s.2.1 s.2.2.2.length s.2.2.1) (s.2.2.2)::blk b3 [I64 (nd),.slice s.2.1 s.2.2.2.length s.2.2.1] 48::blk b2 [I64 (0),.slice none 0 0] 48::blk b1 [I64 (nd),va] 111::I) (fun s=>(s.1≤xs.length)∧(s.2.2.2=edgesK (xs.take s.1))) (fun s=>xs.length - s.1) (0,none,0,[]) (show ((0:Nat)≤xs.length)∧(([]:List Pt)=edgesK (xs.take (0:Nat))) from ⟨om,rfl⟩) (Ab rfl (Ab rfl (Ab rfl (Ab rfl (Ab Cc Bj))))) (show Fit κ _ (vc 135 (.slice (none) ([]).length (0)) (([]))::blk b3 [I64 (nd),.slice (none) ([]).length (0)] 48::blk b2 [I64 (0),.slice none 0 0] 48::blk b1 [I64 (nd),va] 111::I) from (Bx _ _)) ?_))))
 rintro ⟨k,a,c,out⟩ hp
 dsimp only at hp ⊢
 obtain ⟨hk,ho⟩:=hp
 have hol:out.length=k:=by rw [ho,edgesK_len,List.length_take];omega
 refine Ah (Gr (Bb rfl rfl) (Af (Ap (A9 rfl (fun c13=>?_) (fun c13=>?_)))))
 ·refine A1 (Ai (Ap (A3 (Ah (Gr (A0 (α:=Lk) (xs:=xs) Aq ty146 rfl rfl (Bi hl) om om) (Gr (Bu (α:=Lk) (xs:=xs) ty146 rfl (Bi hl) om om) (Ge1 (A8 ty146 rfl) fun b4=>Ge0 (D5 ty146) ?_)))))))
  refine Af (A2 (Gf fld48_1 rfl (Gl ty46 ?_)))
  refine Gf fld146_0 rfl (Gl ty3 ?_)
  refine Gf fld146_1 rfl (Gl ty3 ?_)
  refine Gr (Bg (cells:=[_,_]) ty135 Tryz.underlying135 pl135 rfl rfl) (Ge1 (B8 (α:=Pt) (cs:=[_,_]) (xs:=[⟨(at_ xs (k:Int)).u,(at_ xs (k:Int)).v⟩]) B1 ty135 rfl rfl dc dc rfl rfl rfl rfl) fun ad5=>?_)
  refine Ge2 (Ch (α:=Pt) (e:=135) (xs:=out) (ys:=([⟨(at_ xs (k:Int)).u,(at_ xs (k:Int)).v⟩]:List Pt)) B1 ty135 rfl rfl rfl mm Bf lcn dc rfl (fun _ _=>am)) fun ad6 cp7=>?_
  refine Gf fld48_1 rfl (Ge0 (Es2_1 ty46) ?_)
  exact Bh (Aj (Ai (Ar (S5 2 3 10 11 12 rfl rfl rfl rfl rfl) (A2 (Gr (Rad rfl rfl) (Gm rfl (Bh (B7 ((k+1),(ad6),(cp7),(out++([⟨(at_ xs (k:Int)).u,(at_ xs (k:Int)).v⟩]:List Pt))) (by dsimp only;exact ⟨om,(by rw [edgesK_take om,←ho])⟩)))))))))
 ·refine Bs (Am (Am (A7 (Ai (Ah (Gl2 ty48 ?_))))))
  refine Ge0 (Co ty48) ?_
  refine Af (Az ?_)
  have hE:out=edgesK xs:=by rw [ho,List.take_of_length_le om]
  exact Dt rfl ty48 rfl mm rfl (vc 135 (.slice a (edgesK xs).length c) (edgesK xs)::I) (by rw [←hE];exact Bt) ⟨a,c,by rw [←hE]<;>rfl,rfl⟩
theorem LGraph_ok{nd:Int}{va:Value}{xs:List Lk}(hl:Sl κ I va xs)(hv:checkS nd xs=0)(hsz:xs.length≤100000) :
    CallS Tryz.prog κ 167 [.agg #[I64 (nd),va]] I (fun r J=>∃a c,r = .tuple #[.agg #[I64 nd,.slice a (edgesK xs).length c],I64 0]∧J=vc 135 (.slice a (edgesK xs).length c) (edgesK xs)::I):=by
 refine Ce1 Tryz.func167 rfl rfl ?_
 refine Ah (Ge1 (Bc (cs:=[_,_]) rfl rfl rfl) fun b1=>Ge1 (A8 ty48 rfl) fun b2=>Ga rfl (Af (Ap (Ah (Gl2 ty111 ?_)))))
 refine G.e (Al call214 rfl rfl (CheckS_ok (nd:=nd) (Bi hl))) ?_
 rintro _ _ ⟨_,_,⟨rfl,rfl⟩,rfl,rfl⟩
 refine Ga rfl (Af (Ah (Gm rfl (Gr (Br rfl rfl) (Af (A9 rfl (fun c8=>?_) (fun c8=>?_)))))))
 ·exact absurd hv c8
 ·refine A1 (Ai (Ah (Gl2 ty111 ?_)))
  refine G.e (Al call231 rfl rfl (LEdges_ok (nd:=nd) (Bi hl) om)) ?_
  rintro _ _ ⟨_,_,⟨ad3,cp4,rfl,rfl⟩,rfl,rfl⟩
  refine Ge0 (Co ty48) ?_
  exact Ga rfl (Af (Az (Dj rfl ty48 rfl rfl mm rfl (vc 135 (.slice ad3 (edgesK xs).length cp4) (edgesK xs)::I) Bt ⟨ad3,cp4,rfl,rfl⟩)))
theorem LateC_ok(x y:Ev) :
    CallS Tryz.prog κ 230 [.agg #[I64 (x.kd),I64 (x.tm),I64 (x.u),I64 (x.v),I64 (x.w),I64 (x.lb),I64 (x.sg)],.agg #[I64 (y.kd),I64 (y.tm),I64 (y.u),I64 (y.v),I64 (y.w),I64 (y.lb),I64 (y.sg)]] I (fun r J=>r=I64 (evC x y)∧I=J):=by
 refine Ce2 Tryz.func230 rfl rfl ?_
 refine Ah (Ge1 (Bc (cs:=[_,_,_,_,_,_,_]) rfl rfl rfl) fun b1=>Ge1 (Bc (cs:=[_,_,_,_,_,_,_]) rfl rfl rfl) fun b2=>Ga rfl (Af (Ah (Gf fld108_1 rfl (Gl ty3 ?_)))))
 refine Gf fld108_1 rfl (Gl ty3 ?_)
 refine Gc0 (Al call225 rfl rfl (Compare_ok x.tm y.tm)) ?_
 exact Ga rfl (Af (Az (A4 rfl rfl (I) Ax ⟨by first|rfl|(unfold evC;repeat (first|rfl|omega|split))|(unfold evC;congr 1;repeat (first|rfl|omega|split)),rfl⟩)))
end Go.Sl
