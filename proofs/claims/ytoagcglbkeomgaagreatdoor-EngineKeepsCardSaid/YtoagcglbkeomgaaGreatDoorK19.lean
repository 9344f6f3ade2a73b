/- A part of the proofs of statements of this seat: contracts of functions, and the plain laws that they lean on. No conditions. -/
import Derived.Test.YtoagcglbkeomgaaGreatDoorK18
set_option linter.unusedVariables false
set_option linter.unusedSimpArgs false
set_option linter.unusedSectionVars false
namespace Go.Sl
open Go.Proofs
set_option maxRecDepth 4000
variable{l:List Int}{a i j k:Nat}{b c d w y:Int}{κ:Ctx}{I:List Item}{va:Value}
theorem sumN_listZ(f:Int->Int):∀k,k<=l.length->sumN k (λi=>f (e_ l i))=((l.take k).map f).sum
 |0,_=>by rw [List.take_zero];rfl
 |k+1,h=>by
  rw [Cj l k om,List.map_append,List.sum_append,←sumN_listZ f k om]
  show _+f _=_+(f _+0)
  omega
theorem sumN_listG{n:Nat}(g:Nat->Int)(hn:l.Nodup)(Z:∀x∈l,0<=x/\x<(n:Int)):sumN l.length (λi=>g (e_ l i).toNat)=sumN n λj=>if (j:Int)∈l then g j else 0:=by
 rw [sumN_listZ (λx=>g x.toNat) l.length (Nat.le_refl _),List.take_length,sum_list g hn Z]
theorem asc_atZ(M:l.Pairwise (λx y=>x<y))(hi:i<l.length)(Z:k<l.length):i<k↔e_ l i<e_ l k:=by
 rw [List.pairwise_iff_getElem] at M
 rw [Cn _ i hi,Cn _ k Z]
 constructor
 ·exact M i k hi Z
 intro h
 rcases Nat.lt_trichotomy i k with q|q|q
 ·exact q
 ·subst q;omega
 have:=M k i Z hi q;omega
theorem sum_pairsL{n:Nat}(h:Nat->Nat->Int)(ha:l.Pairwise (λx y=>x<y))(Z:∀x∈l,0<=x/\x<(n:Int)) :
  sumN l.length (λi=>sumN l.length λk=>if i<k then h (e_ l i).toNat (e_ l k).toNat else 0)=sumN n λb=>if (b:Int)∈l then (sumN n λd=>if (d:Int)∈l then (if b<d then h b d else 0) else 0) else 0:=by
 have hn:l.Nodup:=ha.imp λh=>by omega
 rw [←sumN_listG (λb=>sumN n λd=>if (d:Int)∈l then (if b<d then h b d else 0) else 0) hn Z]
 refine B0 _ λi hi=>?_
 rw [←sumN_listG (λd=>if (e_ l i).toNat<d then h (e_ l i).toNat d else 0) hn Z]
 refine B0 _ λk hk=>?_
 have M:=asc_atZ ha hi hk
 have h2:=Z _ (B1 (xs:=l) (i:=(i:Int)) om om)
 have h3:=Z _ (B1 (xs:=l) (i:=(k:Int)) om om)
 by_cases q:i<k
 ·rw [if_pos q,if_pos<|by have:=M.1 q;omega]
 rw [if_neg q,if_neg<|λq2=>q<|M.2 om]
theorem sumN_pick{n w:Nat}(Z:w<n)(F:Nat->Int):sumN n (λa=>if a=w then F a else 0)=F w:=by
 rw [←sumN_at Z (F w)]
 exact B0 n λa _=>by by_cases q:a=w<;>simp [q]
theorem sumN_out{n:Nat}{p:Prop}[Decidable p](F:Nat->Int):sumN n (λc=>if p then F c else 0)=if p then sumN n F else 0:=by
 by_cases q:p
 ·rw [if_pos q];exact B0 n λc _=>if_pos q
 rw [if_neg q];exact Ex n λc _=>if_neg q
theorem sumN_bd{g:Nat->Int}{B:Int}(h:∀x,0<=g x/\g x<=B):∀m:Nat,0<=sumN m g/\sumN m g<=B*(m:Int)
 |0=>by simp [sumN]
 |m+1=>by
  have Z:=sumN_bd h m
  have M:=h m
  have e:B*((m+1:Nat):Int)=B*(m:Int)+B:=by rw [Int.natCast_add,Int.mul_add];simp
  show 0<=sumN m g+g m/\sumN m g+g m<=_
  rw [e];omega
section
variable {nd:Int}{es:List Pt}
def comL(nd:Int)(es:List Pt)(a i k:Nat):List Int:=commonG nd es (e_ (nbG nd es (a:Int)) (i:Int)) (e_ (nbG nd es (a:Int)) (k:Int))
def sq1(nd:Int)(es:List Pt)(φ:Nat->Nat->Nat->Nat->Int)(a i k j:Nat):Int:=
 if (a:Int)<e_ (nbG nd es (a:Int)) (i:Int)/\(a:Int)<e_ (comL nd es a i k) j then φ a (e_ (nbG nd es (a:Int)) (i:Int)).toNat (e_ (nbG nd es (a:Int)) (k:Int)).toNat (e_ (comL nd es a i k) j).toNat else 0
def sqJ(nd:Int)(es:List Pt)(φ:Nat->Nat->Nat->Nat->Int)(a i k j:Nat):Int:=sumN j (sq1 nd es φ a i k)
def sqK(nd:Int)(es:List Pt)(φ:Nat->Nat->Nat->Nat->Int)(a i k:Nat):Int:=sumN k λk=>if i<k then sqJ nd es φ a i k (comL nd es a i k).length else 0
def sqN(nd:Int)(es:List Pt)(φ:Nat->Nat->Nat->Nat->Int)(a i:Nat):Int:=sumN i λi=>sqK nd es φ a i (nbG nd es (a:Int)).length
def sqA(nd:Int)(es:List Pt)(φ:Nat->Nat->Nat->Nat->Int)(a:Nat):Int:=sumN a λa=>sqN nd es φ a (nbG nd es (a:Int)).length
def sqT(nd:Int)(es:List Pt)(a i k j:Nat)(φ:Nat->Nat->Nat->Nat->Int):Int:=sqA nd es φ a+(sqN nd es φ a i+(sqK nd es φ a i k+sqJ nd es φ a i k j))
variable (φ:Nat->Nat->Nat->Nat->Int)
theorem sqK_zero(h:k<=i+1):sqK nd es φ a i k=0:=Ex k λx Z=>if_neg om
theorem sqT_yes(h:(a:Int)<e_ (nbG nd es (a:Int)) (i:Int)/\(a:Int)<e_ (comL nd es a i k) j):sqT nd es a i k (j+1) φ=sqT nd es a i k j φ+φ a (e_ (nbG nd es (a:Int)) (i:Int)).toNat (e_ (nbG nd es (a:Int)) (k:Int)).toNat (e_ (comL nd es a i k) j).toNat:=by
 have e:sqJ nd es φ a i k (j+1)=sqJ nd es φ a i k j+sq1 nd es φ a i k j:=rfl
 unfold sqT
 rw [e,show sq1 nd es φ a i k j=_ from if_pos h]
 omega
theorem sqT_no(h:¬((a:Int)<e_ (nbG nd es (a:Int)) (i:Int)/\(a:Int)<e_ (comL nd es a i k) j)):sqT nd es a i k (j+1) φ=sqT nd es a i k j φ:=by
 have e:sqJ nd es φ a i k (j+1)=sqJ nd es φ a i k j+sq1 nd es φ a i k j:=rfl
 unfold sqT
 rw [e,show sq1 nd es φ a i k j=_ from if_neg h]
 omega
theorem sqT_k(h:i<k):sqT nd es a i (k+1) 0 φ=sqT nd es a i k (comL nd es a i k).length φ:=by
 have e:sqK nd es φ a i (k+1)=sqK nd es φ a i k+if i<k then sqJ nd es φ a i k (comL nd es a i k).length else 0:=rfl
 have e2:sqJ nd es φ a i (k+1) 0=0:=rfl
 unfold sqT
 rw [e,e2,if_pos h]
 omega
theorem sqT_i(a i:Nat):sqT nd es a (i+1) (i+2) 0 φ=sqT nd es a i (nbG nd es (a:Int)).length 0 φ:=by
 have e:sqN nd es φ a (i+1)=sqN nd es φ a i+sqK nd es φ a i (nbG nd es (a:Int)).length:=rfl
 have e2:sqJ nd es φ a (i+1) (i+2) 0=0:=rfl
 have e3:sqJ nd es φ a i (nbG nd es (a:Int)).length 0=0:=rfl
 unfold sqT
 rw [e,e2,e3,sqK_zero φ (show i+2<=i+1+1 by omega)]
 omega
theorem sqT_a(a:Nat):sqT nd es (a+1) 0 1 0 φ=sqT nd es a (nbG nd es (a:Int)).length ((nbG nd es (a:Int)).length+1) 0 φ:=by
 have e:sqA nd es φ (a+1)=sqA nd es φ a+sqN nd es φ a (nbG nd es (a:Int)).length:=rfl
 have e2:sqJ nd es φ (a+1) 0 1 0=0:=rfl
 have e3:sqJ nd es φ a (nbG nd es (a:Int)).length ((nbG nd es (a:Int)).length+1) 0=0:=rfl
 have e4:sqN nd es φ (a+1) 0=0:=rfl
 unfold sqT
 rw [e,e2,e3,e4,sqK_zero φ (show 1<=0+1 by omega),sqK_zero φ<|Nat.le_refl _]
 omega
theorem sqT_0:sqT nd es 0 0 1 0 φ=0:=by
 unfold sqT
 rw [sqK_zero φ (show 1<=0+1 by omega)];rfl
theorem sqT_end(n:Nat):sqT nd es n 0 1 0 φ=sqA nd es φ n:=by
 have e2:sqJ nd es φ n 0 1 0=0:=rfl
 have e4:sqN nd es φ n 0=0:=rfl
 unfold sqT
 rw [e2,e4,sqK_zero φ (show 1<=0+1 by omega)];omega
theorem sqT_bd(ha:a<=64)(hi:i<=64)(hk:k<=66)(hj:j<=64):0<=sqT nd es a i k j (λ_ _ _ _=>1)/\sqT nd es a i k j (λ_ _ _ _=>1)<=20000000:=by
 have h1:∀a i k j:Nat,0<=sq1 nd es (λ_ _ _ _=>1) a i k j/\sq1 nd es (λ_ _ _ _=>1) a i k j<=1:=λa i k j=>by unfold sq1;dsimp only;split<;>omega
 have h2:∀a i k j:Nat,0<=sqJ nd es (λ_ _ _ _=>1) a i k j/\sqJ nd es (λ_ _ _ _=>1) a i k j<=(j:Int):=λa i k j=>by have:=sumN_bd (h1 a i k) j;unfold sqJ;omega
 have M:∀a i k:Nat,0<=sqK nd es (λ_ _ _ _=>1) a i k/\sqK nd es (λ_ _ _ _=>1) a i k<=64*(k:Int):=λa i k=>sumN_bd (λx=>by
  have h4:=h2 a i x (comL nd es a i x).length
  have Z:(comL nd es a i x).length<=64:=commonG_len _ _ _ _
  split<;>omega) k
 have h6:∀a i:Nat,0<=sqN nd es (λ_ _ _ _=>1) a i/\sqN nd es (λ_ _ _ _=>1) a i<=4096*(i:Int):=λa i=>sumN_bd (λx=>by
  have h4:=M a x (nbG nd es (a:Int)).length
  have Z:=nbG_len nd es (a:Int)
  omega) i
 have h7:∀a:Nat,0<=sqA nd es (λ_ _ _ _=>1) a/\sqA nd es (λ_ _ _ _=>1) a<=262144*(a:Int):=λa=>sumN_bd (λx=>by
  have h4:=h6 x (nbG nd es (x:Int)).length
  have Z:=nbG_len nd es (x:Int)
  omega) a
 have h8:=h7 a
 have h9:=h6 a i
 have aa:=M a i k
 have ab:=h2 a i k j
 unfold sqT
 omega
def sqH(nd:Int)(es:List Pt)(φ:Nat->Nat->Nat->Nat->Int)(a b d:Nat):Int:=sumN nd.toNat λc=>if (c:Int)∈commonG nd es (b:Int) (d:Int) then (if a<b/\a<c then φ a b d c else 0) else 0
theorem sqA_all(Z:GrOk nd es):sqA nd es φ nd.toNat=sumN nd.toNat λa=>sumN nd.toNat λb=>sumN nd.toNat λd=>sumN nd.toNat λc=>if cyc (adjE nd es) a b d c=true then φ a b d c else 0:=by
 unfold sqA
 refine B0 _ λa _=>?_
 have M:=nb_lt Z (x:=(a:Int))
 have h1:sqN nd es φ a (nbG nd es (a:Int)).length=sumN (nbG nd es (a:Int)).length λi=>sumN (nbG nd es (a:Int)).length λk=>if i<k then sqH nd es φ a (e_ (nbG nd es (a:Int)) (i:Int)).toNat (e_ (nbG nd es (a:Int)) (k:Int)).toNat else 0:=by
  unfold sqN
  refine B0 _ λi hi=>?_
  unfold sqK
  refine B0 _ λk hk=>?_
  have h2:=M _ (B1 (xs:=nbG nd es (a:Int)) (i:=(i:Int)) om om)
  have h3:=M _ (B1 (xs:=nbG nd es (a:Int)) (i:=(k:Int)) om om)
  by_cases q:i<k
  ·rw [if_pos q,if_pos q]
   have hc:∀x∈comL nd es a i k,0<=x/\x<(nd.toNat:Int):=λx hx=>by have:=common_rng Z hx;omega
   unfold sqH
   rw [Int.toNat_of_nonneg h2.1,Int.toNat_of_nonneg h3.1]
   refine (B0 _ λj hj=>?_).trans (sumN_listG (l:=comL nd es a i k) (λc=>if a<(e_ (nbG nd es (a:Int)) (i:Int)).toNat/\a<c then φ a (e_ (nbG nd es (a:Int)) (i:Int)).toNat (e_ (nbG nd es (a:Int)) (k:Int)).toNat c else 0) (common_nodup _ _ _ _) hc)
   have h4:=hc _ (B1 (xs:=comL nd es a i k) (i:=(j:Int)) om om)
   unfold sq1
   by_cases q2:(a:Int)<e_ (nbG nd es (a:Int)) (i:Int)/\(a:Int)<e_ (comL nd es a i k) j
   ·rw [if_pos q2,if_pos om]
   rw [if_neg q2,if_neg om]
  rw [if_neg q,if_neg q]
 rw [h1,sum_pairsL (sqH nd es φ a) (nb_asc nd es (a:Int)) M]
 refine B0 _ λb _=>?_
 rw [←sumN_out]
 refine B0 _ λd _=>?_
 unfold sqH
 rw [←sumN_out,←sumN_out,←sumN_out]
 refine B0 _ λc _=>?_
 unfold cyc adjE
 by_cases q1:(b:Int)∈nbG nd es (a:Int)
 ·by_cases q2:(d:Int)∈nbG nd es (a:Int)
  ·by_cases q3:b<d
   ·rw [if_pos q1,if_pos q2,if_pos q3]
    have hm:=mem_common2 Z (x:=(b:Int)) (y:=(d:Int)) (w:=(c:Int)) om
    by_cases q4:(c:Int)∈commonG nd es (b:Int) (d:Int)
    ·obtain ⟨m1,m2⟩:=hm.1 q4
     rw [if_pos q4]
     simp [q1,q2,q3,m1,m2]
    rw [if_neg q4]
    have hn:¬((c:Int)∈nbG nd es (b:Int)/\(c:Int)∈nbG nd es (d:Int)):=λh=>q4 (hm.2 h)
    rw [if_neg]
    simp only [Bool.and_eq_true,decide_eq_true_eq]
    exact λh=>hn h.2.2
   rw [if_pos q1,if_pos q2,if_neg q3,if_neg<|by simp [q3]]
  rw [if_pos q1,if_neg q2,if_neg<|by simp [q2]]
 rw [if_neg q1,if_neg<|by simp [q1]]
theorem sqA_cnt(Z:GrOk nd es):sqA nd es (λ_ _ _ _=>1) nd.toNat=quadC nd es:=by
 rw [sqA_all _ Z];rfl
def occ4(w a b d c:Nat):Int:=ind (decide (a=w))+ind (decide (b=w))+ind (decide (d=w))+ind (decide (c=w))
theorem sqA_node(M:GrOk nd es){w:Nat}(Z:w<nd.toNat):sqA nd es (occ4 w) nd.toNat=quadW nd es w:=by
 unfold quadW
 rw [sqA_all _ M,quad_cyc<|adjE_ok M]
 have h1:∀a b d c:Nat,(if cyc (adjE nd es) a b d c=true then occ4 w a b d c else 0)=(if a=w then ind (cyc (adjE nd es) a b d c) else 0)+(if b=w then ind (cyc (adjE nd es) a b d c) else 0)+(if d=w then ind (cyc (adjE nd es) a b d c) else 0)+(if c=w then ind (cyc (adjE nd es) a b d c) else 0):=λa b d c=>by
  unfold occ4
  rw [E7,E7,E7,E7]
  cases cyc (adjE nd es) a b d c with
  |true=>rw [if_pos rfl,ind_t]
  |false=>rw [if_neg dc,ind_f];simp
 have h2:(sumN nd.toNat λa=>sumN nd.toNat λb=>sumN nd.toNat λd=>sumN nd.toNat λc=>if cyc (adjE nd es) a b d c=true then occ4 w a b d c else 0)=sumN nd.toNat λa=>sumN nd.toNat λb=>sumN nd.toNat λd=>sumN nd.toNat λc=>(if a=w then ind (cyc (adjE nd es) a b d c) else 0)+(if b=w then ind (cyc (adjE nd es) a b d c) else 0)+(if d=w then ind (cyc (adjE nd es) a b d c) else 0)+(if c=w then ind (cyc (adjE nd es) a b d c) else 0):=
  B0 _ λa _=>B0 _ λb _=>B0 _ λd _=>B0 _ λc _=>h1 a b d c
 rw [h2]
 simp only [sumN_add]
 congr 1
 ·congr 1
  ·congr 1
   ·rw [←sumN_pick Z λa=>sumN nd.toNat λb=>sumN nd.toNat λd=>sumN nd.toNat λc=>ind<|cyc (adjE nd es) a b d c]
    refine B0 _ λa _=>?_
    rw [←sumN_out];refine B0 _ λb _=>?_
    rw [←sumN_out];refine B0 _ λd _=>?_
    rw [←sumN_out]
   refine B0 _ λa _=>?_
   rw [←sumN_pick Z λb=>sumN nd.toNat λd=>sumN nd.toNat λc=>ind<|cyc (adjE nd es) a b d c]
   refine B0 _ λb _=>?_
   rw [←sumN_out];refine B0 _ λd _=>?_
   rw [←sumN_out]
  refine B0 _ λa _=>B0 _ λb _=>?_
  rw [←sumN_pick Z λd=>sumN nd.toNat λc=>ind<|cyc (adjE nd es) a b d c]
  refine B0 _ λd _=>?_
  rw [←sumN_out]
 refine B0 _ λa _=>B0 _ λb _=>B0 _ λd _=>?_
 rw [←sumN_pick Z λc=>ind<|cyc (adjE nd es) a b d c]
structure SqS (nd:Int) (m:Nat) (N:(Nat->Nat->Nat->Nat->Int)->Int) (n:Int) (xs ys:List Int):Prop where
 len:xs.length=nd.toNat
 len2:ys.length=m
 cnt:n=N λ_ _ _ _=>1
 val:∀w:Nat,w<nd.toNat->e_ xs w=N (occ4 w)
 bx:∀x∈xs,0<=x/\x<=4*n
 bz:∀x∈ys,0<=x/\x<=4*n
variable {φ}{m:Nat}{N N':(Nat->Nat->Nat->Nat->Int)->Int}{n:Int}{xs ys:List Int}
theorem SqS.to(h:SqS nd m N n xs ys)(e:∀φ,N' φ=N φ):SqS nd m N' n xs ys:=⟨h.len,h.len2,by rw [e];exact h.cnt,λw Z=>by rw [e];exact h.val w Z,h.bx,h.bz⟩
theorem SqS.zero:SqS nd m (sqT nd es 0 0 1 0) 0 (List.replicate nd.toNat (0:Int)) (List.replicate m (0:Int)):=⟨List.length_replicate,List.length_replicate,(sqT_0 _).symm,λw M=>by rw [sqT_0,Cn _ w (by rw [List.length_replicate];exact M),List.getElem_replicate],λx Z=>by rw [(List.mem_replicate.1 Z).2];omega,λx Z=>by rw [(List.mem_replicate.1 Z).2];omega⟩
theorem SqS.done(Z:GrOk nd es)(h:SqS nd m (sqT nd es nd.toNat 0 1 0) n xs ys):n=quadC nd es/\xs=quadL nd es/\ys.length=m:=⟨by rw [h.cnt,sqT_end,sqA_cnt Z],E9 (by rw [h.len,quadL_len]) λi hi=>by
 rw [h.len] at hi
 rw [h.val i hi,sqT_end,sqA_node Z hi,quadL_at hi],h.len2⟩
structure RdS (A xs0 ys0:List Int) (B:Int) (x:Nat) (xs ys:List Int):Prop where
 eq:xs=(A.take x).foldl (incL 1) xs0
 len2:ys.length=ys0.length
 bx:∀z∈xs,0<=z/\z<=B+(x:Int)
 bz:∀z∈ys,0<=z/\z<=B+(x:Int)
variable {A xs0 ys0:List Int}{B:Int}{x:Nat}
theorem RdS.zero(M:∀z∈xs0,0<=z/\z<=B)(h2:∀z∈ys0,0<=z/\z<=B):RdS A xs0 ys0 B 0 xs0 ys0:=⟨by rw [List.take_zero];rfl,rfl,λz Z=>by have:=M z Z;omega,λz Z=>by have:=h2 z Z;omega⟩
theorem RdS.lenx(h:RdS A xs0 ys0 B x xs ys):xs.length=xs0.length:=by rw [h.eq,incs_len]
theorem set_bd{B:Int}(h:∀z∈l,0<=z/\z<=B)(Z:0<=w/\w<l.length):∀z∈List.set l w.toNat (e_ l w+1),0<=z/\z<=B+1:=λz M=>by
 have h1:=h _ (B1 Z.1 Z.2)
 rcases List.mem_or_eq_of_mem_set M with q|q
 ·have:=h z q;omega
 omega
theorem RdS.step(h:RdS A xs0 ys0 B x xs ys)(hx:x<A.length)(M:0<=e_ A x/\e_ A x<xs.length)(hy:0<=y/\y<ys.length):RdS A xs0 ys0 B (x+1) (List.set xs (e_ A x).toNat (e_ xs (e_ A x)+1)) (List.set ys y.toNat (e_ ys y+1)):=
 ⟨by rw [Cj A x hx,List.foldl_append,←h.eq];rfl,by rw [List.length_set];exact h.len2,λz Z=>by have:=set_bd h.bx M z Z;omega,λz Z=>by have:=set_bd h.bz hy z Z;omega⟩
theorem RdS.bdx(h:RdS A xs0 ys0 B x xs ys)(Z:0<=w/\w<xs.length):0<=e_ xs w/\e_ xs w<=B+x:=h.bx _ (B1 Z.1 Z.2)
theorem RdS.bdz(h:RdS A xs0 ys0 B x xs ys)(Z:0<=w/\w<ys.length):0<=e_ ys w/\e_ ys w<=B+x:=h.bz _ (B1 Z.1 Z.2)
theorem SqS.bump(h:SqS nd m N n xs0 ys0){a:Int}(hr:(0<=a/\a<nd)/\(0<=b/\b<nd)/\(0<=d/\d<nd)/\0<=c/\c<nd)(hN:∀φ,N' φ=N φ+φ a.toNat b.toNat d.toNat c.toNat)(M:RdS [a,b,c,d] xs0 ys0 (4*n) 4 xs ys):SqS nd m N' (n+1) xs ys:=by
 have hl:=h.len
 refine ⟨by rw [M.lenx,hl],by rw [M.len2,h.len2],by rw [hN,←h.cnt],λw hw=>?_,λz Z=>by have:=M.bx z Z;omega,λz Z=>by have:=M.bz z Z;omega⟩
 rw [hN,←h.val w hw,M.eq,show List.take 4 [a,b,c,d]=[a,b,c,d] from rfl,incs_at _ _ (λz Z=>by simp only [List.mem_cons,List.not_mem_nil,or_false] at Z;rcases Z with rfl|rfl|rfl|rfl<;>omega) _ om]
 have e:∀z:Int,0<=z->ind (decide<|z=(w:Int))=ind (decide<|z.toNat=w):=λz Z=>by congr 1;rw [decide_eq_decide];omega
 simp only [List.map_cons,List.map_nil,List.sum_cons,List.sum_nil,Int.one_mul]
 rw [e a hr.1.1,e b hr.2.1.1,e c hr.2.2.2.1,e d hr.2.2.1.1]
 unfold occ4
 omega
theorem FindP.inn{u v:Int}(h:FindP nd es u v y)(Z:GrOk nd es)(M:edgeP u v∈es):0<=y/\y<es.length:=by
 rcases h with ⟨_,j,rfl,h1,_⟩|⟨_,h1|h1⟩
 ·omega
 ·exact absurd (checkG_ok.2 Z) h1
 exact absurd M h1
theorem round4(M:GrOk nd es){a:Int}(h1:b∈nbG nd es a)(h2:c∈nbG nd es b)(h3:c∈nbG nd es d)(h4:d∈nbG nd es a):∀x:Nat,x<4->(0<=e_ [a,b,c,d] (x:Int)/\e_ [a,b,c,d] (x:Int)<nd)/\edgeP (e_ [a,b,c,d] (x:Int)) (e_ [a,b,c,d] (Int.tmod ((x:Int)+1) 4))∈es:=by
 have Z:∀{x y:Int},y∈nbG nd es x->edgeP x y∈es:=fun {x y} h=>by
  have hr:=nbe_rng M h
  rcases (mem_nb M).1 h with q|q
  ·have:=M.edge _ q;simp only at this;unfold edgeP;rw [if_neg (show ¬y<x by omega),if_pos (show x<y by omega)];exact q
  have:=M.edge _ q;simp only at this;unfold edgeP;rw [if_pos (show y<x by omega),if_neg (show ¬x<y by omega)];exact q
 have r1:=nbe_rng M h1
 have r2:=nbe_rng M h3
 intro x hx
 rcases (show x=0\/x=1\/x=2\/x=3 by omega) with rfl|rfl|rfl|rfl
 ·exact ⟨r1.1,Z h1⟩
 ·exact ⟨r1.2.1,Z h2⟩
 ·exact ⟨r2.2.1,Z<|nb_sym M h3⟩
 exact ⟨r2.1,Z<|nb_sym M h4⟩
end
set_option maxHeartbeats 2000000 in
theorem Squares30_ok{κ:Ctx}{I:List Item}{nd:Int}{va:Value}{es:List Pt}(hl:Sl κ I va es)(hG:GrOk nd es):eu Tryz.prog κ 55 [.agg #[e7 nd,va]] I (λr J=>∃(a:Option Addr) (c:Nat) (b:Option Addr) (d:Nat) (ys:List Int),r = .tuple #[.slice a (quadL nd es).length c,.slice b es.length d,e7 (quadC nd es)]/\ys.length=es.length/\J=vc 3 (.slice b es.length d) ys::vc 3 (.slice a (quadL nd es).length c) (quadL nd es)::I):=by
 have bw:=hG.rng
 have ch:=edges_le hG
 refine Ce1 Tryz.func55 C C ?_
 refine Af<|Ge1 (Bg (cs:=[_,_]) C C C) λb1=>Ga C<|Ga C<|Ga C<|Ac<|W.cut (σ:=(Option Addr)×Nat×(Option Addr)×Nat) (λs=>([(1,.pointer<|some ⟨b1,0,none⟩),(5,.slice s.1 nd.toNat s.2.1),(6,.slice s.2.2.1 es.length s.2.2.2),(7,e7 0)]:Env)) (λs=>vc 3 (.slice s.1 nd.toNat s.2.1) ((List.replicate nd.toNat (0:Int)))::vc 3 (.slice s.2.2.1 es.length s.2.2.2) ((List.replicate es.length (0:Int)))::e8 b1 [e7 nd,va] 38::I) (λs=>True) ?_ ?_
 ·refine Bq mixed (Ef 10<|Dr 0 C (Ad fld38_0 C)<|Dr 1 C (Bb ef) ?_)
  refine Dr 3 C (Ad fld38_1 C)<|Dr 4 C (Bb ty36) ?_
  refine Dr 5 C (B9 (α:=Pt) (xs:=es) Au C<|A8 hl)<|Dt (rs:=[2,6]) kr C C<|E4 ?_<|Ei ?_
  ·refine Se2 C (Du (α:=Int) (n:=nd.toNat) Ab ef C C C om om dc C) λa4 bi=>?_
   refine Dr 7 C (Bd C)<|Ds1 6<|Se2 C (Du (α:=Int) (n:=es.length) Ab ef C C C om om dc C) λbc a0=>?_
   exact Dr 8 C (Bd C)<|Dr 9 C (Bd C)<|Dz<|V.mi ((a4),(bi),(bc),(a0)) trivial (hI:=by (try dsimp only);exact (by simp only [List.length_replicate];first|exact Bl|exact Bc))
  refine Se2 C (Du (α:=Int) (n:=es.length) Ab ef C C C om om dc C) λa1 be=>?_
  refine Ds1 2<|Se2 C (Du (α:=Int) (n:=nd.toNat) Ab ef C C C om om dc C) λbg bf=>?_
  exact Dr 7 C (Bd C)<|Dr 8 C (Bd C)<|Dr 9 C (Bd C)<|Dz<|V.mi ((bg),(bf),(a1),(be)) trivial (hI:=by (try dsimp only);exact (by simp only [List.length_replicate];first|exact Bl|exact Bc))
 rintro ⟨na,nc,ea,ec⟩ hp
 refine Aq<|Af<|Ga C<|Ac<|Aw<|Bu (σ:=Nat×Int×(List Int)×(List Int)) (λs=>([(1,.pointer<|some ⟨b1,0,none⟩),(5,.slice na nd.toNat nc),(6,.slice ea es.length ec),(7,e7<|s.2.1),(8,e7 ((s.1:Nat):Int))]:Env)) (λs=>vc 3 (.slice na nd.toNat nc) (s.2.2.1)::vc 3 (.slice ea es.length ec) (s.2.2.2)::e8 b1 [e7 nd,va] 38::I) (λs=>((s.1:Int)<=nd)/\(SqS nd es.length (sqT nd es s.1 0 1 0) s.2.1 s.2.2.1 s.2.2.2)) (λs=>nd.toNat - s.1) (0,0,(List.replicate nd.toNat (0:Int)),(List.replicate es.length (0:Int))) ⟨om,SqS.zero⟩ (Aa C<|Aa C<|Aa C<|Aa B2<|Aa B2 Bi) Bl ?_
 rintro ⟨a,n0,xs0,ys0⟩ hp
 dsimp only at hp ⊢
 obtain ⟨cc,h0⟩:=hp
 have bn:=h0.len
 have bq:=h0.len2
 have bp:=h0.cnt
 have cb:=nbG_len nd es (a:Int)
 refine Aq<|Af<|Gm C<|Gf fld38_0 C<|Gl ef ?_
 refine Gr (A4 C C)<|Ac<|A5 C (λbb=>?_)<|λbb=>?_
 ·refine Av (Ah<|Aq<|Aw<|Af<|Gl2 ty38 ?_)
  refine Gm C<|G.e (Ak c_ C C<|Neigh03_ok (nd:=nd) (A8 hl) (a:Int) om) ?_
  rintro _ _ ⟨_,_,⟨Z,M,rfl,rfl⟩,rfl,rfl⟩
  have ay:=nbG_len nd es (a:Int)
  refine Ga C<|Ac<|Af<|Ga C<|Ac<|Ao (S7 10 9 1 5 6 7 8 C C C C C C C)<|Aw<|Bu (σ:=Nat×Int×(List Int)×(List Int)) (λs=>([(1,.pointer<|some ⟨b1,0,none⟩),(5,.slice na nd.toNat nc),(6,.slice ea es.length ec),(7,e7<|s.2.1),(8,e7<|(a:Int)),(9,.slice Z (nbG nd es (a:Int)).length M),(10,e7 ((s.1:Nat):Int))]:Env)) (λs=>vc 3 (.slice Z (nbG nd es (a:Int)).length M) (nbG nd es (a:Int))::vc 3 (.slice na nd.toNat nc) (s.2.2.1)::vc 3 (.slice ea es.length ec) (s.2.2.2)::e8 b1 [e7 nd,va] 38::I) (λs=>(s.1<=(nbG nd es (a:Int)).length)/\(SqS nd es.length (sqT nd es a s.1 (s.1+1) 0) s.2.1 s.2.2.1 s.2.2.2)) (λs=>(nbG nd es (a:Int)).length - s.1) (0,n0,xs0,ys0) ⟨om,(h0)⟩ (Aa C<|Aa C<|Aa C<|Aa B2<|Aa C<|Aa C<|Aa B2 Bi) Bl ?_
  rintro ⟨i,n1,ao,aq⟩ hp
  dsimp only at hp ⊢
  obtain ⟨b9,h1⟩:=hp
  have br:=h1.len
  have b4:=h1.len2
  have b5:=h1.cnt
  refine Aq<|Af<|Gm C<|Gm C<|Gr (Bh Ab C)<|Gr (A4 C C)<|Ac<|A5 C (λa5=>?_)<|λa5=>?_
  ·refine Av (Ah<|Aq<|Aw<|Af<|Gm C<|Gr (Rad C C)<|Ga C<|Ac<|Ao (S8 11 1 5 6 7 8 9 10 C C C C C C C C)<|Aw<|Bu (σ:=Nat×Int×(List Int)×(List Int)) (λs=>([(1,.pointer<|some ⟨b1,0,none⟩),(5,.slice na nd.toNat nc),(6,.slice ea es.length ec),(7,e7<|s.2.1),(8,e7<|(a:Int)),(9,.slice Z (nbG nd es (a:Int)).length M),(10,e7<|(i:Int)),(11,e7 ((s.1:Nat):Int))]:Env)) (λs=>vc 3 (.slice Z (nbG nd es (a:Int)).length M) (nbG nd es (a:Int))::vc 3 (.slice na nd.toNat nc) (s.2.2.1)::vc 3 (.slice ea es.length ec) (s.2.2.2)::e8 b1 [e7 nd,va] 38::I) (λs=>(i+1<=s.1/\s.1<=(nbG nd es (a:Int)).length)/\(SqS nd es.length (sqT nd es a i s.1 0) s.2.1 s.2.2.1 s.2.2.2)) (λs=>(nbG nd es (a:Int)).length - s.1) ((i+1),n1,ao,aq) ⟨om,(h1)⟩ (Aa C<|Aa C<|Aa C<|Aa B2<|Aa C<|Aa C<|Aa C<|Aa B2 Bi) Bl ?_)
   rintro ⟨k,n2,ar,ap⟩ hp
   dsimp only at hp ⊢
   obtain ⟨b7,h2⟩:=hp
   have bu:=h2.len
   have b2:=h2.len2
   have b3:=h2.cnt
   refine Aq<|Af<|Gm C<|Gm C<|Gr (Bh Ab C)<|Gr (A4 C C)<|Ac<|A5 C (λba=>?_)<|λba=>?_
   ·refine Av (Ah<|Aq<|Aw<|Aq<|Bq mixed<|Ef 11<|Dr 0 C (Be (vs:=[_,_]) ty38) ?_)
    refine Dr 1 C (Ai C)<|Dr 2 C (Ai C)<|Dr 3 C (Ax (α:=Int) (xs:=nbG nd es (a:Int)) Ab ef C C Bf om om)<|Dr 4 C (Br (xs:=nbG nd es (a:Int)) ef C Bf om om)<|Dr 5 C (Ai C)<|Dr 6 C (Ai C)<|Dr 7 C (Ax (α:=Int) (xs:=nbG nd es (a:Int)) Ab ef C C Bf om om)<|Dr 8 C (Br (xs:=nbG nd es (a:Int)) ef C Bf om om)<|Ds1 9<|Sc2 C (Ak c_ C C<|Common03_ok (nd:=nd) (A8 hl) (e_ (nbG nd es (a:Int)) (i:Int)) (e_ (nbG nd es (a:Int)) (k:Int)) om) λad ae=>?_
    refine Dr 10 C (Bd C)<|Dz<|Ah<|Ao (S9 12 1 5 6 7 8 9 10 11 C C C C C C C C C)<|Af<|Ga C<|Ac<|Aw<|Bu (σ:=Nat×Int×(List Int)×(List Int)) (λs=>([(1,.pointer<|some ⟨b1,0,none⟩),(5,.slice na nd.toNat nc),(6,.slice ea es.length ec),(7,e7<|s.2.1),(8,e7<|(a:Int)),(9,.slice Z (nbG nd es (a:Int)).length M),(10,e7<|(i:Int)),(11,e7<|(k:Int)),(12,.slice ad (commonG nd es (e_ (nbG nd es (a:Int)) (i:Int))<|e_ (nbG nd es (a:Int)) (k:Int)).length ae),(13,e7 ((s.1:Nat):Int))]:Env)) (λs=>vc 3 (.slice ad (commonG nd es (e_ (nbG nd es (a:Int)) (i:Int))<|e_ (nbG nd es (a:Int)) (k:Int)).length ae) (commonG nd es (e_ (nbG nd es (a:Int)) (i:Int))<|e_ (nbG nd es (a:Int)) (k:Int))::vc 3 (.slice Z (nbG nd es (a:Int)).length M) (nbG nd es (a:Int))::vc 3 (.slice na nd.toNat nc) (s.2.2.1)::vc 3 (.slice ea es.length ec) (s.2.2.2)::e8 b1 [e7 nd,va] 38::I) (λs=>(s.1<=(commonG nd es (e_ (nbG nd es (a:Int)) (i:Int))<|e_ (nbG nd es (a:Int)) (k:Int)).length)/\(SqS nd es.length (sqT nd es a i k s.1) s.2.1 s.2.2.1 s.2.2.2)) (λs=>(commonG nd es (e_ (nbG nd es (a:Int)) (i:Int))<|e_ (nbG nd es (a:Int)) (k:Int)).length - s.1) (0,n2,ar,ap) ⟨om,(h2)⟩ (Aa C<|Aa C<|Aa C<|Aa B2<|Aa C<|Aa C<|Aa C<|Aa C<|Aa C<|Aa B2 Bi) Bl ?_
    rintro ⟨j,n3,ai,ah⟩ hp
    dsimp only at hp ⊢
    obtain ⟨cn,h3⟩:=hp
    have bo:=h3.len
    have bv:=h3.len2
    have bt:=h3.cnt
    have cd:(commonG nd es (e_ (nbG nd es (a:Int)) (i:Int))<|e_ (nbG nd es (a:Int)) (k:Int)).length<=64:=commonG_len _ _ _ _
    have co:=sqT_bd (nd:=nd) (es:=es) (a:=a) (i:=i) (k:=k) (j:=j) om om om om
    refine Aq<|Af<|Gm C<|Gm C<|Gr (Bh Ab C)<|Gr (A4 C C)<|Ac<|Ao (S11 59 1 5 6 7 8 9 10 11 12 13 C C C C C C C C C C C)<|A5 C (λbh=>?_)<|λbh=>?_
    ·refine Av (Ah<|Aq<|Aw<|Af<|Gm C<|Gm C<|Gr (Ax (α:=Int) (xs:=nbG nd es (a:Int)) Ab ef C C Bf om om)<|Gr (Br (xs:=nbG nd es (a:Int)) ef C Bf om om)<|Gm C<|Gr (Cc C C)<|Gm C<|Bt (d:=68) C (λbk=>?_)<|λbk=>?_)
     ·refine e9 (Ai C) (e9 (Ai C)<|e9 (Ax (α:=Int) (xs:=commonG nd es (e_ (nbG nd es (a:Int)) (i:Int)) (e_ (nbG nd es (a:Int)) (k:Int))) Ab ef C C Bf om om)<|e9 (Br (xs:=commonG nd es (e_ (nbG nd es (a:Int)) (i:Int)) (e_ (nbG nd es (a:Int)) (k:Int))) ef C Bf om om)<|e9 (Ai C)<|e9 (Cc C C)<|Gr (Ba C C)<|Ac<|Ao (S11 75 1 5 6 7 8 9 10 11 12 13 C C C C C C C C C C C)<|A5 C (λa8=>?_)<|λa8=>?_)
      ·refine Af (Gm C ?_)
       have au:e_ (nbG nd es (a:Int)) (i:Int)∈(nbG nd es (a:Int)):=B1 om om
       have ax:e_ (nbG nd es (a:Int)) (k:Int)∈(nbG nd es (a:Int)):=B1 om om
       have a3:e_ (commonG nd es (e_ (nbG nd es (a:Int)) (i:Int))<|e_ (nbG nd es (a:Int)) (k:Int)) (j:Int)∈(commonG nd es (e_ (nbG nd es (a:Int)) (i:Int))<|e_ (nbG nd es (a:Int)) (k:Int)):=B1 om om
       have ci:=(asc_atZ (nb_asc nd es (a:Int)) (i:=i) (k:=k) om om).1 om
       have ak:=(mem_common2 hG (show e_ (nbG nd es (a:Int)) (i:Int)≠e_ (nbG nd es (a:Int)) (k:Int) by omega)).1 a3
       have aw:=round4 hG au ak.1 ak.2 ax
       have ca:=nbe_rng hG au
       have b6:=nbe_rng hG ax
       have ce:=nbe_rng hG ak.1
       refine Gr (Rad C C)<|Ga C<|Ac<|Ao (S10 7 1 5 6 8 9 10 11 12 13 C C C C C C C C C C)<|Aq<|Bq mixed<|Ef 15<|Dr 0 C (Ai C)<|Dr 1 C (Ai C)<|Dr 2 C (Ai C)<|Dr 3 C (Ax (α:=Int) (xs:=nbG nd es (a:Int)) Ab ef C C Bf om om)<|Dr 4 C (Br (xs:=nbG nd es (a:Int)) ef C Bf om om)<|Dr 5 C (Ai C)<|Dr 6 C (Ai C)<|Dr 7 C (Ax (α:=Int) (xs:=commonG nd es (e_ (nbG nd es (a:Int)) (i:Int)) (e_ (nbG nd es (a:Int)) (k:Int))) Ab ef C C Bf om om)<|Dr 8 C (Br (xs:=commonG nd es (e_ (nbG nd es (a:Int)) (i:Int)) (e_ (nbG nd es (a:Int)) (k:Int))) ef C Bf om om)<|Dr 9 C (Ai C)<|Dr 10 C (Ai C)<|Dr 11 C (Ax (α:=Int) (xs:=nbG nd es (a:Int)) Ab ef C C Bf om om)<|Dr 12 C (Br (xs:=nbG nd es (a:Int)) ef C Bf om om)<|Dr 13 C (Ec (cells:=[_,_,_,_]) ty155 Cw ef C C)<|Ds1 14<|Se1 C (A3 ty155 C) λan=>?_
       refine Cs kr ?_
       refine Ae 15 C (Dn ty155) ?_
       rintro _ _ ⟨rfl,rfl⟩
       refine Ct kr ?_
       refine Ah<|Ao (S11 14 7 1 5 6 8 9 10 11 12 13 C C C C C C C C C C C)<|Af<|Ga C<|Ac<|Aw<|Bu (σ:=Nat×(List Int)×(List Int)) (λs=>([(1,.pointer<|some ⟨b1,0,none⟩),(5,.slice na nd.toNat nc),(6,.slice ea es.length ec),(7,e7<|n3+1),(8,e7<|(a:Int)),(9,.slice Z (nbG nd es (a:Int)).length M),(10,e7<|(i:Int)),(11,e7<|(k:Int)),(12,.slice ad (commonG nd es (e_ (nbG nd es (a:Int)) (i:Int))<|e_ (nbG nd es (a:Int)) (k:Int)).length ae),(13,e7<|(j:Int)),(14,.pointer<|some ⟨an,0,none⟩),(15,e7 ((s.1:Nat):Int))]:Env)) (λs=>e8 an (cells ([(a:Int),e_ (nbG nd es (a:Int)) (i:Int),e_ (commonG nd es (e_ (nbG nd es (a:Int)) (i:Int))<|e_ (nbG nd es (a:Int)) (k:Int)) (j:Int),e_ (nbG nd es (a:Int)) (k:Int)]:List Int)) 155::vc 3 (.slice ad (commonG nd es (e_ (nbG nd es (a:Int)) (i:Int))<|e_ (nbG nd es (a:Int)) (k:Int)).length ae) (commonG nd es (e_ (nbG nd es (a:Int)) (i:Int))<|e_ (nbG nd es (a:Int)) (k:Int))::vc 3 (.slice Z (nbG nd es (a:Int)).length M) (nbG nd es (a:Int))::vc 3 (.slice na nd.toNat nc) (s.2.1)::vc 3 (.slice ea es.length ec) (s.2.2)::e8 b1 [e7 nd,va] 38::I) (λs=>(s.1<=4)/\(RdS [(a:Int),e_ (nbG nd es (a:Int)) (i:Int),e_ (commonG nd es (e_ (nbG nd es (a:Int)) (i:Int))<|e_ (nbG nd es (a:Int)) (k:Int)) (j:Int),e_ (nbG nd es (a:Int)) (k:Int)] ai ah (4*n3) s.1 s.2.1 s.2.2)) (λs=>4 - s.1) (0,ai,ah) ⟨om,(RdS.zero h3.bx h3.bz)⟩ (Aa C<|Aa C<|Aa C<|Aa C<|Aa C<|Aa C<|Aa C<|Aa C<|Aa C<|Aa C<|Aa C<|Aa B2 Bi) Bl ?_
       rintro ⟨x,aa,ab⟩ hp
       dsimp only at hp ⊢
       obtain ⟨cj,h4⟩:=hp
       have cq:=h4.lenx
       have cf:=h4.len2
       have ck:([(a:Int),e_ (nbG nd es (a:Int)) (i:Int),e_ (commonG nd es (e_ (nbG nd es (a:Int)) (i:Int))<|e_ (nbG nd es (a:Int)) (k:Int)) (j:Int),e_ (nbG nd es (a:Int)) (k:Int)]:List Int).length=4:=rfl
       refine Aq<|Af<|Gm C<|Gr (A4 C C)<|Ac<|Ao (S13 93 1 5 6 7 8 9 10 11 12 13 14 15 C C C C C C C C C C C C C)<|A5 C (λbm=>?_)<|λbm=>?_
       ·refine Av (Ah<|Aq<|Aw<|Af<|Gm C ?_)
        have a6:=aw x om
        have cm:=h4.bdx (w:=e_ [(a:Int),e_ (nbG nd es (a:Int)) (i:Int),e_ (commonG nd es (e_ (nbG nd es (a:Int)) (i:Int))<|e_ (nbG nd es (a:Int)) (k:Int)) (j:Int),e_ (nbG nd es (a:Int)) (k:Int)] (x:Int)) om
        have b8:0<=Int.tmod ((x:Int)+1) 4/\Int.tmod ((x:Int)+1) 4<4:=by rw [Int.tmod_eq_emod_of_nonneg om];omega
        refine Gm C<|Gr (B4 Cw ef C C om om)<|Gr (Runs.getA (xs:=[(a:Int),e_ (nbG nd es (a:Int)) (i:Int),e_ (commonG nd es (e_ (nbG nd es (a:Int)) (i:Int))<|e_ (nbG nd es (a:Int)) (k:Int)) (j:Int),e_ (nbG nd es (a:Int)) (k:Int)]) ef C (Ds mm) om om)<|Gr (Ax (α:=Int) (xs:=aa) Ab ef C C Bf om om)<|Gr (Br (xs:=aa) ef C Bf om om)<|Gr (Rad C C)<|Gr (Ax (α:=Int) (xs:=aa) Ab ef C C Bf om om)<|Ge0 (Cu (α:=Int) (xs:=aa) (e:=3) (new:=(e_ aa<|e_ ([(a:Int),e_ (nbG nd es (a:Int)) (i:Int),e_ (commonG nd es (e_ (nbG nd es (a:Int)) (i:Int))<|e_ (nbG nd es (a:Int)) (k:Int)) (j:Int),e_ (nbG nd es (a:Int)) (k:Int)]) (x:Int))+1) ef C C C om om am) ?_
        refine Ac<|Ao (S12 1 5 6 7 8 9 10 11 12 13 14 15 C C C C C C C C C C C C)<|Bq mixed<|Ef 15<|Dr 0 C (Ai C)<|Dr 1 C (Be (vs:=[_,_]) ty38) ?_
        refine Dr 2 C (Ai C)<|Dr 3 C (B4 Cw ef C C om om)<|Dr 4 C (Runs.getA (xs:=[(a:Int),e_ (nbG nd es (a:Int)) (i:Int),e_ (commonG nd es (e_ (nbG nd es (a:Int)) (i:Int))<|e_ (nbG nd es (a:Int)) (k:Int)) (j:Int),e_ (nbG nd es (a:Int)) (k:Int)]) ef C (Ds mm) om om)<|Dr 5 C (Ai C)<|Dr 6 C (Rad C C)<|Dr 7 C (Runs.rem C C om)<|Dr 8 C (B4 Cw ef C C om om)<|Dr 9 C (Runs.getA (xs:=[(a:Int),e_ (nbG nd es (a:Int)) (i:Int),e_ (commonG nd es (e_ (nbG nd es (a:Int)) (i:Int))<|e_ (nbG nd es (a:Int)) (k:Int)) (j:Int),e_ (nbG nd es (a:Int)) (k:Int)]) ef C (Ds mm) om om)<|Ds1 10<|Se C (Ak c_ C C<|FindP03_ok (nd:=nd) (A8 hl) (e_ ([(a:Int),e_ (nbG nd es (a:Int)) (i:Int),e_ (commonG nd es (e_ (nbG nd es (a:Int)) (i:Int))<|e_ (nbG nd es (a:Int)) (k:Int)) (j:Int),e_ (nbG nd es (a:Int)) (k:Int)]) (x:Int))<|e_ ([(a:Int),e_ (nbG nd es (a:Int)) (i:Int),e_ (commonG nd es (e_ (nbG nd es (a:Int)) (i:Int))<|e_ (nbG nd es (a:Int)) (k:Int)) (j:Int),e_ (nbG nd es (a:Int)) (k:Int)])<|Int.tmod ((x:Int)+1) 4) ?_
        rintro _ _ ⟨_,_,⟨aj,rfl,av,rfl⟩,rfl,rfl⟩
        refine ⟨Bc,?_⟩
        have cp:=av.inn hG a6.2
        have cg:=h4.bdz (w:=aj) om
        refine Dr 11 C (Ax (α:=Int) (xs:=ab) Ab ef C C Bf om om)<|Dr 12 C (Br (xs:=ab) ef C Bf om om)<|Dr 13 C (Rad C C)<|Dr 14 C (Ax (α:=Int) (xs:=ab) Ab ef C C Bf om om)<|Cs kr ?_
        refine Ae 15 C (Cu (α:=Int) (xs:=ab) (e:=3) (new:=(e_ ab aj)+1) ef C C C om om am) ?_
        rintro _ _ ⟨rfl,rfl⟩
        refine Ct kr ?_
        exact Aj<|Ah<|Ao (S12 1 5 6 7 8 9 10 11 12 13 14 15 C C C C C C C C C C C C)<|Ar<|Gm C<|Gr (Rad C C)<|Ga C<|Bj<|B3 ((x+1),(List.set aa (e_ ([(a:Int),e_ (nbG nd es (a:Int)) (i:Int),e_ (commonG nd es (e_ (nbG nd es (a:Int)) (i:Int))<|e_ (nbG nd es (a:Int)) (k:Int)) (j:Int),e_ (nbG nd es (a:Int)) (k:Int)]) (x:Int)).toNat ((e_ aa<|e_ ([(a:Int),e_ (nbG nd es (a:Int)) (i:Int),e_ (commonG nd es (e_ (nbG nd es (a:Int)) (i:Int))<|e_ (nbG nd es (a:Int)) (k:Int)) (j:Int),e_ (nbG nd es (a:Int)) (k:Int)]) (x:Int))+1)),(List.set ab (aj).toNat ((e_ ab aj)+1)))<|by dsimp only;exact ⟨om,(h4.step (by show x<4;omega) om om)⟩
       exact Bs<|Al<|Al<|A2<|Aj<|Ah<|Ar<|Gm C<|Gr (Rad C C)<|Ga C<|Bj<|B3 ((j+1),(n3+1),(aa),(ab))<|by dsimp only;exact ⟨om,(h3.bump (a:=(a:Int)) (b:=e_ (nbG nd es (a:Int)) (i:Int)) (d:=e_ (nbG nd es (a:Int)) (k:Int)) (c:=e_ (commonG nd es (e_ (nbG nd es (a:Int)) (i:Int))<|e_ (nbG nd es (a:Int)) (k:Int)) (j:Int)) ⟨by omega,by omega,by omega,by omega⟩ (λφ=>sqT_yes φ ⟨by first|assumption|omega,by first|assumption|omega⟩)<|by rw [show (4:Nat)=x by omega];exact h4)⟩
      exact Av<|Aj<|Ah<|Ar<|Gm C<|Gr (Rad C C)<|Ga C<|Bj<|B3 ((j+1),(n3),(ai),(ah))<|by dsimp only;exact ⟨om,((h3.to λφ=>sqT_no φ<|by unfold comL;omega))⟩
     exact eb<|eb<|eb<|eb<|eb<|eb<|Gr (A6 C C)<|Ac<|Ao (S11 75 1 5 6 7 8 9 10 11 12 13 C C C C C C C C C C C)<|Dp C<|Av<|Aj<|Ah<|Ar<|Gm C<|Gr (Rad C C)<|Ga C<|Bj<|B3 ((j+1),(n3),(ai),(ah))<|by dsimp only;exact ⟨om,((h3.to λφ=>sqT_no φ<|by unfold comL;omega))⟩
    exact Bs<|Al<|Al<|A2<|Aj<|Ah<|Ar<|Gm C<|Gr (Rad C C)<|Ga C<|Bj<|B3 ((k+1),(n3),(ai),(ah))<|by dsimp only;exact ⟨om,((h3.to λφ=>by rw [show j=(commonG nd es (e_ (nbG nd es (a:Int)) (i:Int))<|e_ (nbG nd es (a:Int)) (k:Int)).length by omega];exact sqT_k φ om))⟩
   exact Bs<|Al<|Al<|A2<|Aj<|Ah<|Ar<|Gm C<|Gr (Rad C C)<|Ga C<|Bj<|B3 ((i+1),(n2),(ar),(ap))<|by dsimp only;exact ⟨om,((h2.to λφ=>by rw [show k=(nbG nd es (a:Int)).length by omega];exact sqT_i φ a i))⟩
  exact Bs<|Al<|Al<|A2<|Aj<|Ah<|Ar<|Gm C<|Gr (Rad C C)<|Ga C<|Bj<|B3 ((a+1),(n1),(ao),(aq))<|by dsimp only;exact ⟨om,((h1.to λφ=>by rw [show i=(nbG nd es (a:Int)).length by omega];exact sqT_a φ a))⟩
 refine Bs<|Al<|Al<|A2<|Ah<|Af<|Gm C<|Gm C<|Gm C<|Ga C<|Ga C<|Ga C<|Ac<|Ao (S3 4 3 2 C C C)<|Az ?_
 have az:a=nd.toNat:=by omega
 rw [az] at h0
 obtain ⟨bj,a7,a9⟩:=h0.done hG
 exact V.ret3 C C C C (vc 3 (.slice ea es.length ec) ys0::vc 3 (.slice na (quadL nd es).length nc) (quadL nd es)::I) (by rw [quadL_len,←a7];exact Bl) ⟨na,nc,ea,ec,ys0,by rw [quadL_len,←bj],a9,rfl⟩
theorem Count30_ok{nd:Int}{es:List Pt}(hl:Sl κ I va es)(M:GrOk nd es):eu Tryz.prog κ 22 [.agg #[e7 nd,va]] I (λr J=>r = .tuple #[e7 (quadC nd es),e7 0]/\I=J):=by
 refine Ce1 Tryz.func22 C C ?_
 refine Af<|Ge1 (Bg (cs:=[_,_]) C C C) λb1=>Ga C<|Ga C<|Ac<|Aq<|Af<|Gl2 ty38 ?_
 refine Gc0 (Ak c_ C C<|Check03_ok (A8 hl) M) ?_
 refine Ga C<|Ac<|Af<|Gm C<|Gr (Bo C C)<|Ac<|A5 C (λc11=>?_)<|λc11=>?_
 ·exact absurd c11 dc
 refine Av<|Ah<|Af<|Gl2 ty38 ?_
 refine G.e (Ak c_ C C<|Squares30_ok (nd:=nd) (A8 hl) M) ?_
 rintro _ _ ⟨_,_,⟨ad,ah,aa,ae,ab,rfl,Z,rfl⟩,rfl,rfl⟩
 exact Gm C<|Gr (Am C C)<|Gr (Am C C)<|Gr (Am C C)<|Ga C<|Ga C<|Ga C<|Ac<|Ao (S1 7 C)<|Af<|Gm C<|Ga C<|Ga C<|Ac<|Az<|C7 C C C I Ay ⟨rfl,rfl⟩
end Go.Sl
namespace Go.Sl
theorem ageL_out{wd mo T:Int}:∀(n:Nat) (xs:List Lk) (out:List Ev),xs.length<=n->ageL wd mo T xs out=((ageL wd mo T xs []).1,out++(ageL wd mo T xs []).2)
 |0,xs,out,h=>by
  have Z:¬(0<xs.length/\minT xs+wd<=T):=by omega
  rw [ageL_stop Z,ageL_stop Z,List.append_nil]
 |n+1,xs,out,h=>by
  by_cases Z:0<xs.length/\minT xs+wd<=T
  ·have M:=age_less (wd:=wd) (mo:=mo) Z.1
   unfold ageX at M
   rw [ageL_step Z,ageL_step (out:=[]) Z,ageL_out n _ (out++_) om,ageL_out n _ ([]++_) om,List.nil_append,List.append_assoc]
  rw [ageL_stop Z,ageL_stop Z,List.append_nil]
section
variable {kd wd mo bd:Int}
theorem evStep_out(xs:List Lk)(out:List Ev)(e:Ev):evStep kd wd mo (xs,out) e=((evStep kd wd mo (xs,[]) e).1,out++(evStep kd wd mo (xs,[]) e).2):=by
 have Z:agedL kd wd mo e.tm (xs,out)=((agedL kd wd mo e.tm (xs,[])).1,out++(agedL kd wd mo e.tm (xs,[])).2):=by
  unfold agedL
  by_cases h:kd=2
  ·rw [if_pos h,if_pos h];exact ageL_out _ _ _ (Nat.le_refl _)
  rw [if_neg h,if_neg h,List.append_nil]
 unfold evStep
 rw [Z]
 unfold windL
 by_cases h:kd=3
 ·rw [if_pos h,if_pos h,List.append_assoc,List.append_assoc,List.append_assoc]
 rw [if_neg h,if_neg h,List.append_assoc]
def relE(kd wd mo:Int)(S:List Lk)(l:List Ev):List Lk×List Ev:=l.foldl (evStep kd wd mo) (S,[])
theorem relE_out(l:List Ev):∀(S:List Lk) (out:List Ev),l.foldl (evStep kd wd mo) (S,out)=((relE kd wd mo S l).1,out++(relE kd wd mo S l).2):=by
 induction l with
 |nil=>intro S out;unfold relE;rw [List.foldl_nil,List.foldl_nil,List.append_nil]
 |cons e l ih=>
  intro S out
  unfold relE
  rw [List.foldl_cons,List.foldl_cons,evStep_out S out e]
  have e1:evStep kd wd mo (S,[]) e=((evStep kd wd mo (S,[]) e).1,(evStep kd wd mo (S,[]) e).2):=rfl
  rw [e1,ih,ih,List.append_assoc]
theorem relE_app(S:List Lk)(l m:List Ev):relE kd wd mo S (l++m)=((relE kd wd mo (relE kd wd mo S l).1 m).1,(relE kd wd mo S l).2++(relE kd wd mo (relE kd wd mo S l).1 m).2):=by
 conv=>lhs;unfold relE
 rw [List.foldl_append]
 have e1:l.foldl (evStep kd wd mo) (S,[])=((relE kd wd mo S l).1,(relE kd wd mo S l).2):=rfl
 rw [e1,relE_out]
def lastE(t:Int)(l:List Ev):Int:=l.foldl (λ_ e=>e.tm) t
theorem lastE_app(t:Int)(l m:List Ev):lastE t (l++m)=lastE (lastE t l) m:=List.foldl_append ..
structure EnS where
 b:BfS
 S:List Lk
 tm:Int
def EnS.rel(kd wd mo:Int)(k:EnS)(b:BfS)(l:List Ev):EnS:=⟨b,(relE kd wd mo k.S l).1,lastE k.tm l⟩
def EnS.feed(kd wd mo bd:Int)(k:EnS)(e:Ev):EnS:=k.rel kd wd mo (k.b.push bd e) (k.b.out bd e)
def EnS.fout(kd wd mo bd:Int)(k:EnS)(e:Ev):List Ev:=(relE kd wd mo k.S (k.b.out bd e)).2
def EnS.flush(kd wd mo:Int)(k:EnS):EnS:=k.rel kd wd mo k.b.flush k.b.ws
def EnS.xout(kd wd mo:Int)(k:EnS):List Ev:=(relE kd wd mo k.S k.b.ws).2
def EnS.next(kd wd mo bd:Int)(k:EnS)(e:Ev):EnS:=if e.tm<=k.b.mr then k else k.feed kd wd mo bd e
def EnS.nout(kd wd mo bd:Int)(k:EnS)(e:Ev):List Ev:=if e.tm<=k.b.mr then [] else k.fout kd wd mo bd e
def EnS.all(kd wd mo bd:Int)(k:EnS)(l:List Ev):EnS:=l.foldl (λk e=>k.next kd wd mo bd e) k
def BfS.next(bd:Int)(s:BfS)(e:Ev):BfS:=if e.tm<=s.mr then s else s.push bd e
def BfS.all(bd:Int)(s:BfS)(l:List Ev):BfS:=l.foldl (λs e=>s.next bd e) s
def BfS.outs(bd:Int):BfS->List Ev->List Ev
 |_,[]=>[]
 |s,e::l=>(if e.tm<=s.mr then [] else s.out bd e)++BfS.outs bd (s.next bd e) l
def BfS.lates(bd:Int):BfS->List Ev->Nat
 |_,[]=>0
 |s,e::l=>(if e.tm<=s.mr then 1 else 0)+BfS.lates bd (s.next bd e) l
def EnS.outs(kd wd mo bd:Int):EnS->List Ev->List Ev
 |_,[]=>[]
 |k,e::l=>k.nout kd wd mo bd e++EnS.outs kd wd mo bd (k.next kd wd mo bd e) l
theorem next_rel(k:EnS)(e:Ev):k.next kd wd mo bd e=k.rel kd wd mo (k.b.next bd e) (if e.tm<=k.b.mr then [] else k.b.out bd e)/\k.nout kd wd mo bd e=(relE kd wd mo k.S (if e.tm<=k.b.mr then [] else k.b.out bd e)).2:=by
 unfold EnS.next EnS.nout BfS.next
 by_cases h:e.tm<=k.b.mr
 ·rw [if_pos h,if_pos h,if_pos h,if_pos h];exact ⟨rfl,rfl⟩
 rw [if_neg h,if_neg h,if_neg h,if_neg h];exact ⟨rfl,rfl⟩
theorem all_rel:∀(l:List Ev) (k:EnS),k.all kd wd mo bd l=k.rel kd wd mo (k.b.all bd l) (BfS.outs bd k.b l)/\EnS.outs kd wd mo bd k l=(relE kd wd mo k.S (BfS.outs bd k.b l)).2
 |[],k=>⟨rfl,rfl⟩
 |e::l,k=>by
  obtain ⟨Z,h2⟩:=next_rel (kd:=kd) (wd:=wd) (mo:=mo) (bd:=bd) k e
  obtain ⟨h3,h4⟩:=all_rel l (k.next kd wd mo bd e)
  have M:(k.next kd wd mo bd e).b=k.b.next bd e:=by rw [Z];rfl
  constructor
  ·show (k.next kd wd mo bd e).all kd wd mo bd l=_
   rw [h3,M,Z]
   show (⟨_,_,_⟩:EnS)=⟨_,_,_⟩
   congr 1
   ·show (relE kd wd mo (relE kd wd mo k.S _).1 _).1=(relE kd wd mo k.S<|_++_).1
    rw [relE_app]
   show lastE (lastE k.tm _) _=lastE k.tm (_++_)
   rw [lastE_app]
  show k.nout kd wd mo bd e++EnS.outs kd wd mo bd (k.next kd wd mo bd e) l=_
  rw [h4,h2,M,Z]
  show _=(relE kd wd mo k.S<|_++_).2
  rw [relE_app];rfl
def runB(bd:Int)(l:List Ev):List Ev:=BfS.outs bd ⟨-1, -1,[]⟩ l++(BfS.all bd ⟨-1, -1,[]⟩ l).ws
def EnS.run(kd wd mo bd:Int)(l:List Ev):EnS:=((⟨⟨-1, -1,[]⟩,[],0⟩:EnS).all kd wd mo bd l).flush kd wd mo
theorem run_eq(l:List Ev):EnS.run kd wd mo bd l=(⟨⟨-1, -1,[]⟩,[],0⟩:EnS).rel kd wd mo (BfS.all bd ⟨-1, -1,[]⟩ l).flush (runB bd l):=by
 unfold EnS.run EnS.flush
 rw [(all_rel l _).1]
 show (⟨_,_,_⟩:EnS)=⟨_,_,_⟩
 unfold runB
 congr 1
 ·show (relE kd wd mo (relE kd wd mo [] _).1 _).1=(relE kd wd mo []<|_++_).1
  rw [relE_app];rfl
 show lastE (lastE 0 _) _=lastE 0 (_++_)
 rw [lastE_app];rfl
end
end Go.Sl
namespace Go.Sl
section
variable {kd wd mo bd:Int}
theorem BfS.lates_app:∀(l m:List Ev) (s:BfS),BfS.lates bd s (l++m)=BfS.lates bd s l+BfS.lates bd (s.all bd l) m
 |[],m,s=>by show _=0+_;rw [Nat.zero_add];rfl
 |e::l,m,s=>by
  show _+BfS.lates bd (s.next bd e) (l++m)=_+BfS.lates bd (s.next bd e) l+_
  rw [BfS.lates_app l m,Nat.add_assoc];rfl
theorem BfOk.open_(h:0<=bd/\bd<=1048576):BfOk bd ⟨-1, -1,[]⟩:=⟨h,by decide,by decide,(λe Z=>by cases Z),(λe Z=>by cases Z),List.Pairwise.nil⟩
theorem EnS.all_app(k:EnS)(l m:List Ev):k.all kd wd mo bd (l++m)=(k.all kd wd mo bd l).all kd wd mo bd m:=List.foldl_append ..
end
end Go.Sl
namespace Go.Sl
variable{T last:Int}{S xs:List Lk}{out:List Ev}
structure StepR (nd kd wd mo last:Int) (S:List Lk) (e:Ev) (r:List Lk×List Ev):Prop where
 inv:SlI nd kd wd e.tm r.1
 st:r.1=r.2.foldl ep S
 fit:∀x∈r.2,FitOk nd x
 asc:r.2.Pairwise λa b=>a.tm<=b.tm
 rng:∀x∈r.2,last<=x.tm/\x.tm<=e.tm
 has:e∈r.2
 cnt:kd=3->(r.1.length:Int)<=mo
 len:r.1.length<=S.length+1/\r.2.length<=2*S.length+2
structure AgX (nd wd last T:Int) (S xs:List Lk) (out:List Ev):Prop where
 inv:SlI nd 2 wd last xs
 st:xs=out.foldl ep S
 fit:∀e∈out,FitOk nd e
 asc:out.Pairwise λa b=>a.tm<=b.tm
 le:∀e∈out,last<=e.tm/\e.tm<=T
 bef:∀e∈out,∀x∈xs,e.tm<=x.tm+wd
 sum:xs.length+out.length<=S.length
theorem AgX.step{nd wd mo:Int}(h:AgX nd wd last T S xs out)(h0:0<=last)(hT:T<=1048576)(hs:0<xs.length/\minT xs+wd<=T) :
  AgX nd wd last T S (xs.filter<|inW 2 wd mo (minT xs+wd) xs) (out++goneL 2 wd mo (minT xs+wd) xs):=by
 have hf:=h.inv.first rfl hs.1
 obtain ⟨⟨x0,M,e0⟩,ab⟩:=minT_spec hs.1
 have hg:∀c∈goneL 2 wd mo (minT xs+wd) xs,c.tm=minT xs+wd:=λc hc=>(gone_mem hc).2
 refine ⟨h.inv.filter _,?_,λe he=>?_,List.pairwise_append.2 ⟨h.asc,?_,λa ha c hc=>?_⟩,λe he=>?_,λe he x hx=>?_,?_⟩
 ·rw [List.foldl_append,←h.st,gone_steps h.inv.val]
 ·rcases List.mem_append.1 he with he|he
  ·exact h.fit e he
  exact gone_fit h.inv.val om e he
 ·unfold goneL
  rw [List.pairwise_map]
  exact pw_all (λa c=>Int.le_refl _) _
 ·rw [hg c hc,e0];exact h.bef a ha x0 M
 ·rcases List.mem_append.1 he with he|he
  ·exact h.le e he
  rw [hg e he];omega
 ·obtain ⟨aa,Z⟩:=List.mem_filter.1 hx
  rcases List.mem_append.1 he with he|he
  ·exact h.bef e he x aa
  rw [inW2] at Z
  have:=of_decide_eq_true Z
  rw [hg e he];omega
 have h1:=gone_len 2 wd mo (minT xs+wd) xs
 have h2:=h.sum
 rw [List.length_append];omega
theorem AgX.aged{nd wd mo:Int}(h:AgX nd wd last T S xs out)(h0:0<=last)(hl:last<=T)(hT:T<=1048576) :
  AgX nd wd last T S (ageL wd mo T xs out).1 (ageL wd mo T xs out).2/\SlI nd 2 wd T (ageL wd mo T xs out).1:=by
 obtain ⟨Z,h2⟩:=ageL_ind (mo:=mo) (P:=λxs out=>AgX nd wd last T S xs out) (λxs out hs M=>M.step h0 hT hs) xs.length xs out (Nat.le_refl _) h
 exact ⟨Z,Z.inv.later hl λ_=>h2⟩
theorem step_ok{nd kd wd mo:Int}{e:Ev}(h:SlI nd kd wd last S)(h0:0<=last)(hl:last<=e.tm)(Z:FitOk nd e)(hw:checkW kd wd mo=0):StepR nd kd wd mo last S e (evStep kd wd mo (S,[]) e):=by
 have aa:=stepL_len S e
 rcases checkW_cases hw with ⟨rfl,rfl,rfl⟩|⟨rfl,ab,rfl⟩|⟨rfl,rfl,hm⟩
 ·have hr:evStep 1 0 0 (S,[]) e=(ep S e,[e]):=rfl
  rw [hr]
  refine ⟨(h.later hl λM=>by cases M).step Z rfl (λM=>by cases M),rfl,λx hx=>?_,List.pairwise_singleton _ _,λx hx=>?_,List.mem_singleton.2 rfl,(λM=>by cases M),⟨aa,?_⟩⟩
  ·rw [List.mem_singleton.1 hx];exact Z
  ·rw [List.mem_singleton.1 hx];omega
  simp
 ·have hA:AgX nd wd last e.tm S S []:=⟨h,rfl,(λe Z=>by cases Z),List.Pairwise.nil,(λe Z=>by cases Z),(λe Z=>by cases Z),by simp⟩
  obtain ⟨hG,hI⟩:=hA.aged (mo:=0) h0 hl Z.tm.2
  have hr:evStep 2 wd 0 (S,[]) e=(ep (ageL wd 0 e.tm S []).1 e,(ageL wd 0 e.tm S []).2++[e]):=rfl
  rw [hr]
  generalize ageL wd 0 e.tm S []=a at hG hI
  have h1:=stepL_len a.1 e
  have M:=hG.sum
  refine ⟨hI.step Z rfl<|λ_=>ab.1,?_,λx hx=>?_,List.pairwise_append.2 ⟨hG.asc,List.pairwise_singleton _ _,λx hx y hy=>?_⟩,λx hx=>?_,List.mem_append_right _<|List.mem_singleton.2 rfl,(λM=>by cases M),⟨?_,?_⟩⟩
  ·simp only;rw [List.foldl_append,←hG.st];rfl
  ·rcases List.mem_append.1 hx with hx|hx
   ·exact hG.fit x hx
   rw [List.mem_singleton.1 hx];exact Z
  ·rw [List.mem_singleton.1 hy];exact (hG.le x hx).2
  ·rcases List.mem_append.1 hx with hx|hx
   ·exact hG.le x hx
   rw [List.mem_singleton.1 hx];omega
  ·simp only;omega
  simp only [List.length_append,List.length_cons,List.length_nil];omega
 have hr:evStep 3 0 mo (S,[]) e=((ep S e).filter (inW 3 0 mo e.tm<|ep S e),[]++[e]++goneL 3 0 mo e.tm (ep S e)):=rfl
 rw [hr,List.nil_append]
 have hv:=stepL_val h.val Z
 have hg:∀c∈goneL 3 0 mo e.tm (ep S e),c.tm=e.tm:=λc hc=>(gone_mem hc).2
 have h1:=gone_len 3 0 mo e.tm (ep S e)
 refine ⟨((h.later hl λM=>by cases M).step Z rfl (λM=>by cases M)).filter _,?_,λx hx=>?_,?_,λx hx=>?_,List.mem_append_left _<|List.mem_singleton.2 rfl,λ_=>last_len (checkS_iff.1 hv).2.2 hm.1,⟨?_,?_⟩⟩
 ·simp only;rw [List.foldl_append];exact (gone_steps hv).symm
 ·rcases List.mem_append.1 hx with hx|hx
  ·rw [List.mem_singleton.1 hx];exact Z
  exact gone_fit hv Z.tm x hx
 ·refine List.pairwise_append.2 ⟨List.pairwise_singleton _ _,?_,λa ha c hc=>?_⟩
  ·unfold goneL
   rw [List.pairwise_map]
   exact pw_all (λa c=>Int.le_refl _) _
  rw [List.mem_singleton.1 ha,hg c hc];exact Int.le_refl _
 ·rcases List.mem_append.1 hx with hx|hx
  ·rw [List.mem_singleton.1 hx];omega
  rw [hg x hx];omega
 ·simp only;omega
 simp only [List.length_append,List.length_cons,List.length_nil];omega
structure EnOk (nd kd wd mo bd:Int) (k:EnS):Prop where
 win:checkW kd wd mo=0
 buf:BfOk bd k.b
 fit:∀e∈k.b.ws,FitOk nd e
 inv:SlI nd kd wd k.tm k.S
 tm:0<=k.tm/\k.tm<=1048576/\(k.tm<=k.b.mr\/k.tm=0)
 cnt:kd=3->(k.S.length:Int)<=mo
section
variable {nd kd wd mo bd:Int}
theorem rel_ok(hw:checkW kd wd mo=0):∀(l:List Ev) (S:List Lk) (last:Int),SlI nd kd wd last S->0<=last->(kd=3->(S.length:Int)<=mo)->(∀e∈l,FitOk nd e/\last<=e.tm)->l.Pairwise (λa b=>a.tm<=b.tm)->
  SlI nd kd wd (lastE last l) (relE kd wd mo S l).1/\(relE kd wd mo S l).1=(relE kd wd mo S l).2.foldl ep S/\(∀x∈(relE kd wd mo S l).2,FitOk nd x)/\(kd=3->((relE kd wd mo S l).1.length:Int)<=mo)/\last<=lastE last l/\(lastE last l=last\/∃e∈l,lastE last l=e.tm)/\(relE kd wd mo S l).1.length<=S.length+l.length
 |[],S,last,h,h0,hc,_,_=>⟨h,rfl,(λx hx=>by cases hx),hc,Int.le_refl _,.inl rfl,Nat.le_refl _⟩
 |e::l,S,last,h,h0,hc,hl,ha=>by
  obtain ⟨he,ab⟩:=hl e List.mem_cons_self
  obtain ⟨M,aa⟩:=List.pairwise_cons.1 ha
  have hs:=step_ok h h0 ab he hw
  obtain ⟨r1,r2,r3,r4,r5,Z,r7⟩:=rel_ok hw l (evStep kd wd mo (S,[]) e).1 e.tm hs.inv om hs.cnt (λx hx=>⟨(hl x<|List.mem_cons_of_mem _ hx).1,M x hx⟩) aa
  have e1:relE kd wd mo S (e::l)=((relE kd wd mo (evStep kd wd mo (S,[]) e).1 l).1,(evStep kd wd mo (S,[]) e).2++(relE kd wd mo (evStep kd wd mo (S,[]) e).1 l).2):=relE_app S [e] l
  have e2:lastE last (e::l)=lastE e.tm l:=rfl
  rw [e1,e2]
  refine ⟨r1,?_,λx hx=>?_,r4,by omega,?_,?_⟩
  ·simp only;rw [List.foldl_append,←hs.st];exact r2
  ·rcases List.mem_append.1 hx with hx|hx
   ·exact hs.fit x hx
   exact r3 x hx
  ·rcases Z with Z|⟨x,hx,Z⟩
   ·exact .inr ⟨e,List.mem_cons_self,Z⟩
   exact .inr ⟨x,List.mem_cons_of_mem _ hx,Z⟩
  have:=hs.len.1
  simp only [List.length_cons];omega
theorem EnOk.open_(h:0<=nd/\nd<=64)(Z:checkW kd wd mo=0)(hb:0<=bd/\bd<=1048576):EnOk nd kd wd mo bd ⟨⟨-1, -1,[]⟩,[],0⟩:=
 ⟨Z,BfOk.open_ hb,(λe he=>by cases he),SlI.nil h,by simp,λM=>by
  rcases checkW_cases Z with ⟨rfl,_⟩|⟨rfl,_⟩|⟨_,_,hm⟩
  ·cases M
  ·cases M
  show ((0:Nat):Int)<=mo;omega⟩
theorem EnOk.feed{k:EnS}(h:EnOk nd kd wd mo bd k){e:Ev}(he:FitOk nd e)(ht:k.b.mr<e.tm):EnOk nd kd wd mo bd (k.feed kd wd mo bd e):=by
 have hb:=h.buf.push he.chk ht he.tm.2
 obtain ⟨h1,h2⟩:=h.buf.out (e:=e) ht
 have Z:∀x∈pushW k.b e,FitOk nd x:=λx hx=>by
  rcases mem_push.1 hx with rfl|hx
  ·exact he
  exact h.fit x hx
 have hm:=h.buf.mr
 have aa:=h.tm
 obtain ⟨r1,r2,r3,r4,r5,M,r7⟩:=rel_ok h.win (k.b.out bd e) k.S k.tm h.inv aa.1 h.cnt (λx hx=>by
  have h3:=Z x (mem_upTo.1 hx).1
  have:=h1 x hx
  have:=h3.tm
  exact ⟨h3,by omega⟩) h2
 refine ⟨h.win,hb,λx hx=>Z x (mem_beyond.1 hx).1,r1,?_,r4⟩
 show 0<=lastE k.tm _/\lastE k.tm _<=1048576/\(lastE k.tm _<=max k.b.mr (relM bd k.b e)\/lastE k.tm _=0)
 rcases M with M|⟨x,hx,M⟩
 ·rw [M];omega
 have h3:=h1 x hx
 have h4:=(Z x (mem_upTo.1 hx).1).tm
 have h5:(k.b.push bd e).mr=max k.b.mr (relM bd k.b e):=rfl
 rw [M];omega
end
end Go.Sl
namespace Go.Sl
open Go.Proofs
set_option maxRecDepth 4000
variable{xs:List Lk}{i j:Nat}{q:Bool}{kd mo t:Int}
section
variable {nd:Int}{X:List Lk}{e:Ev}
def normE(e:Ev):Ev:=⟨e.kd,e.tm,(eh e).u,(eh e).v,e.w,e.lb,e.sg⟩
def setC(xs:List Lk)(e:Ev):List Ev:=if eh e∈xs then [] else [normE e]
def chgL(xs:List Lk)(e:Ev):List Ev:=if e.kd=1 then setC xs e else (xs.filter (hitE e)).map (cutEv e.tm)
theorem setL_mem_len{n:Lk}:∀{xs:List Lk},xs.Pairwise Lk.lt->n∈xs->(setL n xs).length=xs.length
 |[],_,h=>by cases h
 |l::ls,ha,h=>by
  obtain ⟨M,h2⟩:=List.pairwise_cons.1 ha
  unfold setL
  rcases List.mem_cons.1 h with rfl|h
  ·rw [if_neg (show ¬Lk.lt n n from λq=>Pt.lin.irr _ q),if_pos rfl]
  have Z:Lk.lt l n:=M n h
  rw [if_neg (show ¬Lk.lt n l from λq=>Pt.lin.asymm Z q),if_neg (show ¬l.p=n.p from λq=>by unfold Lk.lt at Z;rw [q] at Z;exact Pt.lin.irr _ Z),List.length_cons,setL_mem_len h2 h,List.length_cons]
theorem lk_uniq(ha:xs.Pairwise Lk.lt){a b:Lk}(M:a∈xs)(h2:b∈xs)(hp:a.p=b.p):a=b:=by
 induction xs with
 |nil=>cases M
 |cons l ls ih=>
  obtain ⟨h3,h4⟩:=List.pairwise_cons.1 ha
  rcases List.mem_cons.1 M with e1|h6<;>rcases List.mem_cons.1 h2 with e2|h7
  ·rw [e1,e2]
  ·have Z:=h3 b h7;rw [←e1] at Z;unfold Lk.lt at Z;rw [hp] at Z;exact absurd Z (Pt.lin.irr _)
  ·have Z:=h3 a h6;rw [←e2] at Z;unfold Lk.lt at Z;rw [hp] at Z;exact absurd Z (Pt.lin.irr _)
  exact ih h4 h6 h7
theorem set_not1{n:Lk}(h:BFound Lk.cmp xs n i q)(ha:xs.Pairwise Lk.lt)(hq:q=true)(Z:¬e_ xs i=n):n∉xs:=λhm=>by
 have M:=h.is
 rw [hq] at M
 obtain ⟨hi,h2⟩:=of_decide_eq_true M.symm
 exact Z<|lk_uniq ha (B1 om om) hm<|(Lk.cmp_zero _ _).1 h2
theorem set_not2{n:Lk}(h:BFound Lk.cmp xs n i q)(M:xs.Pairwise Lk.lt)(hq:q=false):n∉xs:=λhm=>by
 have Z:=congrArg List.length (setL_new h M hq)
 rw [setL_mem_len M hm] at Z
 have:=h.le
 simp at Z;omega
theorem mem_setL2{n:Lk}:∀{xs:List Lk} (p:Pt),p∈(setL n xs).map Lk.p↔p=n.p\/p∈xs.map Lk.p
 |[],p=>by unfold setL;simp
 |l::ls,p=>by
  unfold setL
  split
  ·simp
  split
  ·rename_i h;simp [h]
  rw [List.map_cons,List.mem_cons,mem_setL2 p,List.map_cons,List.mem_cons]
  constructor
  ·rintro (h|h|h)
   ·exact .inr<|.inl h
   ·exact .inl h
   exact .inr<|.inr h
  rintro (h|h|h)
  ·exact .inr<|.inl h
  ·exact .inl h
  exact .inr<|.inr h
theorem edges_map(X:List Lk):edgesK X=X.map Lk.p:=rfl
def chS(es0 es:List Pt)(c:Ev):List Pt:=if c.kd=1 then (if edgeP c.u c.v∈es0 then es else insB Pt.lt es (edgeP c.u c.v)) else without es (edgeP c.u c.v)
def chE(X:List Lk)(e:Ev)(j:Nat):List Pt:=((chgL X e).take j).foldl (chS (edgesK X)) (edgesK X)
theorem chE_zero:chE X e 0=edgesK X:=rfl
theorem chE_succ(h:j<(chgL X e).length):chE X e (j+1)=chS (edgesK X) (chE X e j) (e_ (chgL X e) j):=by
 unfold chE;rw [Cj _ j h,List.foldl_append];rfl
theorem cut_edge{l:Lk}(h:l.u<l.v):edgeP (cutEv t l).u (cutEv t l).v=l.p:=by
 show edgeP l.u l.v=_
 unfold edgeP;rw [if_neg om,if_pos h];rfl
theorem cuts_fold{es0:List Pt}:∀(l:List Lk) (es:List Pt),(∀x∈l,x.u<x.v)->(l.map (cutEv t)).foldl (chS es0) es=es.filter λp=>decide (p∉l.map Lk.p)
 |[],es,_=>by
  rw [List.map_nil,List.foldl_nil]
  exact (List.filter_eq_self.2 λp _=>by simp).symm
 |x::l,es,h=>by
  have Z:chS es0 es (cutEv t x)=without es x.p:=by
   unfold chS
   rw [cut_edge (h x List.mem_cons_self)]
   exact if_neg (show ¬((2:Int)=1) by decide)
  rw [List.map_cons,List.foldl_cons,Z,cuts_fold l _ λy M=>h y<|List.mem_cons_of_mem _ M]
  unfold without
  rw [List.filter_filter]
  refine List.filter_congr λp _=>?_
  rw [List.map_cons,←Bool.decide_and,decide_eq_decide,List.mem_cons,not_or]
  exact And.comm
theorem hits_lt(hv:checkS nd X=0)(P:Lk->Bool):∀x∈X.filter P,x.u<x.v:=λx Z=>(val_uv hv x (List.mem_filter.1 Z).1).2.1
theorem ch_end(hv:checkS nd X=0)(hf:FitOk nd e):chE X e (chgL X e).length=edgesK (ep X e):=by
 have ha:=(checkS_iff.1 hv).2.2
 have Z:=stepL_val hv hf
 unfold chE
 rw [List.take_length]
 by_cases hk:e.kd=1
 ·have hs:ep X e=setL (eh e) X:=by unfold ep;rw [if_pos hk]
  have hc:chgL X e=setC X e:=by unfold chgL;rw [if_pos hk]
  rw [hs] at Z
  have h0:=(edgesK_ok hv).asc
  have M:=(edgesK_ok Z).asc
  rw [hs,hc]
  unfold setC
  by_cases hm:eh e∈X
  ·rw [if_pos hm,List.foldl_nil]
   refine Pt.lin.uniq h0 M λp=>?_
   rw [edges_map,edges_map,mem_setL2]
   exact ⟨.inr,λh=>h.elim (λh=>h▸List.mem_map_of_mem hm) id⟩
  rw [if_neg hm,List.foldl_cons,List.foldl_nil]
  have he:edgeP (normE e).u (normE e).v=(eh e).p:=edgeP_self (e:=(eh e).p) (by
   have h2:e.u≠e.v:=(hf.ends.2.2 om).2
   show (if e.v<e.u then e.v else e.u)<(if e.u<e.v then e.v else e.u)
   split<;>split<;>omega)
  unfold chS
  rw [he,if_pos (show (normE e).kd=1 from hk)]
  by_cases hp:(eh e).p∈edgesK X
  ·rw [if_pos hp]
   refine Pt.lin.uniq h0 M λp=>?_
   rw [edges_map (setL _ _),mem_setL2]
   exact ⟨.inr,λh=>h.elim (λh=>h▸hp) id⟩
  rw [if_neg hp]
  refine Pt.lin.uniq (Pt.lin.insB _ h0) M λp=>?_
  rw [mem_insB,edges_map<|setL _ _,mem_setL2];rfl
 have hs:ep X e=X.filter λl=> !hitE e l:=by unfold ep;rw [if_neg hk]
 have hc:chgL X e=(X.filter<|hitE e).map (cutEv e.tm):=by unfold chgL;rw [if_neg hk]
 rw [hs] at Z
 rw [hs,hc,cuts_fold _ _<|hits_lt hv _]
 refine Pt.lin.uniq ((edgesK_ok hv).asc.sublist List.filter_sublist) (edgesK_ok Z).asc λp=>?_
 rw [List.mem_filter,decide_eq_true_eq]
 constructor
 ·rintro ⟨M,h2⟩
  obtain ⟨l,hl,rfl⟩:=List.mem_map.1 M
  refine List.mem_map_of_mem (f:=Lk.p)<|List.mem_filter.2 ⟨hl,?_⟩
  cases hh:hitE e l with
  |false=>rfl
  |true=>exact absurd (List.mem_map_of_mem (f:=Lk.p)<|List.mem_filter.2 ⟨hl,hh⟩) h2
 intro M
 obtain ⟨l,hl,rfl⟩:=List.mem_map.1 M
 obtain ⟨h2,h3⟩:=List.mem_filter.1 hl
 refine ⟨List.mem_map_of_mem (f:=Lk.p) h2,λh4=>?_⟩
 obtain ⟨l2,aa,e2⟩:=List.mem_map.1 h4
 obtain ⟨h5,h6⟩:=List.mem_filter.1 aa
 have:=lk_uniq ha h5 h2 e2
 subst this
 rw [h6] at h3;cases h3
theorem GrOk.subl{es es':List Pt}(h:GrOk nd es)(hs:es'.Sublist es):GrOk nd es':=⟨h.rng,h.asc.sublist hs,λp Z=>h.edge p (hs.subset Z)⟩
structure ChJ (nd:Int) (X:List Lk) (es:List Pt) (c:Ev):Prop where
 ok:GrOk nd es
 ends:endsP nd c.u c.v
 set:c.kd=1->es=edgesK X
 cut:c.kd≠1->edgeP c.u c.v∈es
theorem ch_at(hv:checkS nd X=0)(hf:FitOk nd e)(Z:j<(chgL X e).length):ChJ nd X (chE X e j) (e_ (chgL X e) j):=by
 have ha:=(checkS_iff.1 hv).2.2
 have hG:=edgesK_ok hv
 by_cases hk:e.kd=1
 ·have hc:chgL X e=setC X e:=by unfold chgL;rw [if_pos hk]
  have hl:(setC X e).length<=1:=by unfold setC;split<;>simp
  have ae:j=0:=by rw [hc] at Z;omega
  subst ae
  have he:e_ (chgL X e) ((0:Nat):Int)=normE e:=by
   rw [hc] at Z ⊢
   unfold setC at Z ⊢
   split at Z
   ·cases Z
   rename_i h;rw [if_neg h];rfl
  rw [he,chE_zero]
  have h2:=hf.ends.2.2 om
  have h3:=hf.ends.1
  have h4:=hf.fits
  refine ⟨hG,?_,λ_=>rfl,λh=>absurd hk h⟩
  show endsP nd (if e.v<e.u then e.v else e.u) (if e.u<e.v then e.v else e.u)
  unfold endsP
  split<;>split<;>omega
 have hc:chgL X e=(X.filter<|hitE e).map (cutEv e.tm):=by unfold chgL;rw [if_neg hk]
 have M:j<(X.filter<|hitE e).length:=by rw [hc,List.length_map] at Z;exact Z
 have he:e_ (chgL X e) j=cutEv e.tm (e_ (X.filter<|hitE e) (j:Int)):=by
  rw [hc,Cn _ j<|by rw [List.length_map];exact M,Cn _ j M,List.getElem_map]
 have hm:=B1 (xs:=X.filter (hitE e)) (i:=(j:Int)) om om
 have hr:=val_uv hv _ (List.mem_filter.1 hm).1
 have hE:chE X e j=(edgesK X).filter λp=>decide (p∉((X.filter<|hitE e).take j).map Lk.p):=by
  unfold chE
  rw [hc,←List.map_take]
  exact cuts_fold _ _ λx hx=>hits_lt hv _ x<|List.mem_of_mem_take hx
 have ab:=Cj (X.filter<|hitE e) j M
 have aa:=(ha.sublist List.filter_sublist).sublist (List.take_sublist (j+1)<|X.filter<|hitE e)
 rw [ab] at aa
 rw [he,hE]
 generalize e_ (X.filter<|hitE e) (j:Int)=l at *
 refine ⟨hG.subl List.filter_sublist,?_,λh=>absurd h (show ¬((2:Int)=1) by decide),λ_=>?_⟩
 ·show endsP nd l.u l.v
  unfold endsP;omega
 rw [cut_edge hr.2.1,List.mem_filter,decide_eq_true_eq]
 refine ⟨List.mem_map_of_mem (f:=Lk.p) (List.mem_filter.1 hm).1,λh=>?_⟩
 obtain ⟨l2,ad,e2⟩:=List.mem_map.1 h
 have h5:=(List.pairwise_append.1 aa).2.2 l2 ad l (List.mem_singleton.2 rfl)
 unfold Lk.lt at h5
 rw [e2] at h5
 exact Pt.lin.irr _ h5
theorem chg_len(X:List Lk)(e:Ev):(chgL X e).length<=X.length+1:=by
 unfold chgL
 split
 ·unfold setC;split<;>simp
 rw [List.length_map];exact Nat.le_succ_of_le (List.length_filter_le _ _)
end
structure OldI (wd T:Int) (P:List Lk) (tt:Int) (out:List Ev):Prop where
 le:tt<=T+1
 low:∀l∈P,tt<=l.tm+wd
 is:tt=T+1\/∃l∈P,l.tm+wd=tt
 out:out=if tt<=T then (P.filter λl=>decide<|l.tm+wd=tt).map (cutEv tt) else []
section
variable {wd T tt:Int}{P:List Lk}{out:List Ev}{l:Lk}
theorem OldI.zero:OldI wd T [] (T+1) []:=⟨by omega,(λl h=>by cases h),.inl rfl,by rw [if_neg om]⟩
theorem OldI.less(h:OldI wd T P tt out)(M:l.tm+wd<tt):OldI wd T (P++[l]) (l.tm+wd) [cutEv (l.tm+wd) l]:=by
 have h2:=h.le
 refine ⟨by omega,λx hx=>?_,.inr ⟨l,by simp,rfl⟩,?_⟩
 ·rcases List.mem_append.1 hx with hx|hx
  ·have:=h.low x hx;omega
  rw [List.mem_singleton.1 hx];omega
 have Z:(P.filter λx=>decide<|x.tm+wd=l.tm+wd)=[]:=List.filter_eq_nil_iff.2 λx hx=>by
  have:=h.low x hx
  simp;omega
 rw [if_pos om,List.filter_append,Z]
 simp
theorem OldI.eq(h:OldI wd T P tt out)(Z:l.tm+wd=tt)(h2:tt<=T):OldI wd T (P++[l]) tt (out++[cutEv (l.tm+wd) l]):=by
 refine ⟨h.le,λx hx=>?_,?_,?_⟩
 ·rcases List.mem_append.1 hx with hx|hx
  ·exact h.low x hx
  rw [List.mem_singleton.1 hx];omega
 ·exact .inr ⟨l,by simp,Z⟩
 have M:=h.out
 rw [if_pos h2] at M ⊢
 rw [List.filter_append,List.map_append,←M,Z]
 simp [Z]
theorem OldI.no(h:OldI wd T P tt out)(M:¬l.tm+wd<tt)(h2:¬(l.tm+wd=tt/\tt<=T)):OldI wd T (P++[l]) tt out:=by
 refine ⟨h.le,λx hx=>?_,?_,?_⟩
 ·rcases List.mem_append.1 hx with hx|hx
  ·exact h.low x hx
  rw [List.mem_singleton.1 hx];omega
 ·rcases h.is with Z|⟨x,hx,Z⟩
  ·exact .inl Z
  exact .inr ⟨x,List.mem_append_left _ hx,Z⟩
 have Z:=h.out
 by_cases h4:tt<=T
 ·rw [if_pos h4] at Z ⊢
  rw [List.filter_append,Z]
  simp [show ¬l.tm+wd=tt by omega]
 rw [if_neg h4] at Z ⊢; exact Z
def oldL(kd wd mo T:Int)(X:List Lk):List Ev:=if kd=2/\0<X.length/\minT X+wd<=T then goneL 2 wd mo (minT X+wd) X else []
theorem OldI.all(hk:kd=2)(h:OldI wd T P tt out):out=oldL kd wd mo T P:=by
 unfold oldL
 rw [h.out]
 by_cases h0:0<P.length
 ·obtain ⟨⟨x,hx,e⟩,hm⟩:=minT_spec h0
  have h1:=h.low x hx
  have h2:=h.le
  by_cases h3:minT P+wd<=T
  ·have Z:tt=minT P+wd:=by
    rcases h.is with Z|⟨y,M,Z⟩
    ·omega
    have:=hm y M;omega
   rw [if_pos om,if_pos ⟨hk,h0,h3⟩,Z]
   unfold goneL
   congr 1
   refine List.filter_congr λy M=>?_
   have:=hm y M
   rw [inW2,←decide_not,decide_eq_decide];omega
  have Z:¬tt<=T:=by
   rcases h.is with Z|⟨y,M,Z⟩
   ·omega
   have:=hm y M;omega
  rw [if_neg Z,if_neg (show ¬(kd=2/\0<P.length/\minT P+wd<=T) from λq=>h3 q.2.2)]
 have Z:P=[]:=List.length_eq_zero_iff.1 om
 subst Z
 rw [if_neg (show ¬(kd=2/\0<([]:List Lk).length/\minT []+wd<=T) from λq=>h0 q.2.1)];simp
theorem oldL_not{X:List Lk}(Z:¬kd=2):oldL kd wd mo T X=[]:=if_neg λq=>Z q.1
theorem oldL_pos{X:List Lk}:0<(oldL kd wd mo T X).length↔kd=2/\0<X.length/\minT X+wd<=T:=by
 unfold oldL
 constructor
 ·intro h
  split at h
  ·assumption
  cases h
 intro h
 rw [if_pos h]
 obtain ⟨⟨x,Z,e⟩,M⟩:=minT_spec h.2.1
 unfold goneL
 rw [List.length_map]
 exact List.length_pos_of_mem<|List.mem_filter.2 ⟨Z,by rw [inW2];simp;omega⟩
theorem oldL_len(kd wd mo T:Int)(X:List Lk):(oldL kd wd mo T X).length<=X.length:=by
 unfold oldL goneL
 split
 ·rw [List.length_map];exact List.length_filter_le _ _
 simp
end
end Go.Sl
