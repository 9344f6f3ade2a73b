/- A part of the proofs of statements of this seat: contracts of functions, and the plain laws that they lean on. No conditions. -/
import Derived.Test.YtfkcohmipjhfcaaGreatDoorK15
set_option linter.unusedVariables false
set_option linter.unusedSimpArgs false
set_option linter.unusedSectionVars false
open List (replicate)
namespace Go.Sl
open Go.Proofs
set_option maxRecDepth 4000
def setP2(p:Pt)(j:Int)(n:Int):Pt:=if j=0 then {p with u:=n} else {p with v:=n}
section
variable {P:Program}{κ:Ctx}{N:Frm}{Q:Exit->Act->World->Prop}{L:Env}{I J:List Item}
variable {d:Option Tmp}{ty:TypeId}{ps:String}{af:Array Edge}{gd:Option (Nat×Bool)}
theorem Runs.index2{x y:Operand}{T:TypeId}{u v j:Int}(h0:∀w:World,(Instr.index T (.agg #[e7 u,e7 v]) (e7 0)).run P w = .ok (e7 u) w)(h1:∀w:World,(Instr.index T (.agg #[e7 u,e7 v]) (e7 1)).run P w = .ok (e7 v) w)
  (hx:er L x=some (.agg #[e7 u,e7 v])) (hy:er L y=some (e7 j)) (hj:j=0\/j=1):Runs P κ N ⟨d,.index T x y,ty,ps,af,gd⟩ L J (e7 (if j=0 then u else v)):=λa w ha hs=>by
 rcases hj with rfl|rfl
 ·simp [execOp,ha.eval hx,ha.eval hy,h0]
 ·simp [execOp,ha.eval hx,ha.eval hy,h1]
theorem Runs.idxsV(α:Type)[Enc α]{x y:Operand}{T E by' n c:Nat}{ag:Bool}{z:List Value}{ad:Option Addr}{i:Int}(ht:P.underlying T=some (.slice E))(hE:tyF P E=some (Enc.sz α,ag,by',z))(hx:er L x=some (.slice ad n c))
  (hy:er L y=some (e7 i)) (ha:ad≠none) (h0:0<=i) (hn:i<n):Runs P κ N ⟨d,.indexAddr T x y,ty,ps,af,gd⟩ L J (elemPtr (.slice ad n c) (i.toNat*Enc.sz α)):=by
 cases ad with
 |none=>exact absurd rfl ha
 |some ad=>exact λa w ha hs=>by simp [execOp,ha.eval hx,ha.eval hy,Instr.indexAt,asIntOf,run_underlying ht,h0,hn,run_sizeOf hE,elemPtr]
theorem Runs.idxElF{x y:Operand}{T E n sz m by' n' c:Nat}{ag:Bool}{z:List Value}{ad:Option Addr}{i:Int}(ht:P.underlying T=some (.array n E))(hE:tyF P E=some (sz,ag,by',z))(hx:er L x=some (elemPtr (.slice ad n' c) m))
  (hy:er L y=some (e7 i)) (ha:ad≠none) (h0:0<=i) (hn:i<n):Runs P κ N ⟨d,.indexAddr T x y,ty,ps,af,gd⟩ L J (elemPtr (.slice ad n' c) (m+i.toNat*sz)):=by
 cases ad with
 |none=>exact absurd rfl ha
 |some ad=>
  have e:(ad.add m).add (i.toNat*sz)=ad.add (m+i.toNat*sz):=by
   generalize i.toNat*sz=q
   unfold Addr.add
   by_cases h1:m=0<;>by_cases h2:q=0<;>simp [h1,h2,Nat.add_assoc]
  exact λa w ha hs=>by simp [execOp,ha.eval hx,ha.eval hy,elemPtr,Instr.indexAt,asIntOf,run_underlying ht,h0,hn,run_sizeOf hE,Instr.sureAddr,e]
theorem Eff.setP2{xs:List Pt}{x y:Operand}{T by' e:Nat}{z:List Value}{v:Value}{i j n:Int}{I':List Item}(hT:tyF P T=some (1,false,by',z))(hx:er L x=some (elemPtr v (i.toNat*Enc.sz Pt+j.toNat*1)))(hy:er L y=some (e7 n))(hj:j=0\/j=1)
  (h0:0<=i) (hn:i<xs.length) (hat:At I (vc e v xs) (vc e v (xs.set i.toNat (setP2 (e_ xs i) j n))) I'):Eff P κ N Q ⟨none,.store T x y,ty,ps,af,gd⟩ L I λL' I''=>L'=L/\I''=I':=by
 rcases hj with rfl|rfl
 ·exact Eff.setf (α:=Pt) (xs:=xs) (e:=e) (new:={e_ xs i with u:=n}) (j:=0) hT hx hy C C dc C h0 hn hat
 ·exact Eff.setf (α:=Pt) (xs:=xs) (e:=e) (new:={e_ xs i with v:=n}) (j:=1) hT hx hy C C dc C h0 hn hat
theorem Eff.setC2{x y:Operand}{T sz by' b E:Nat}{ag:Bool}{z:List Value}{p q j n:Int}{I':List Item}(hT:tyF P T=some (sz,ag,by',z))(hs1:sz=1)(hx:er L x=some (.pointer (some ⟨b,0+j.toNat*1,none⟩)))(hy:er L y=some (e7 n))(hj:j=0\/j=1)
  (hat:At I (e8 b [e7 p,e7 q] E) (e8 b [e7 (if j=0 then n else p),e7 (if j=0 then q else n)] E) I'):Eff P κ N Q ⟨none,.store T x y,ty,ps,af,gd⟩ L I λL' I''=>L'=L/\I''=I':=by
 rcases hj with rfl|rfl
 ·exact Eff.store (vs:=[e7 n]) hT hx hy C (by rw [hs1];rfl) (λu hu=>by rw [List.mem_singleton] at hu;subst hu;rfl) (by simp) C hat
 ·exact Eff.store (vs:=[e7 n]) hT hx hy C (by rw [hs1];rfl) (λu hu=>by rw [List.mem_singleton] at hu;subst hu;rfl) (by simp) C hat
end
theorem ix2a(u v:Int)(w:World):(Instr.index 64 (.agg #[e7 u,e7 v]) (e7 0)).run Tryz.prog w = .ok (e7 u) w:=by kernel_rfl
theorem ix2b(u v:Int)(w:World):(Instr.index 64 (.agg #[e7 u,e7 v]) (e7 1)).run Tryz.prog w = .ok (e7 v) w:=by kernel_rfl
structure PlainP (nd:Int) (es:List Pt) (ws bs cs:List Int):Prop where
 wl:ws.length=es.length
 w1:∀i:Nat,i<es.length->e_ ws i=1
 bl:bs.length=nd.toNat
 b0:∀i:Int,0<=i->i<nd->e_ bs i=0
 cl:cs.length=nd.toNat
 c1:∀i:Int,0<=i->i<nd->e_ cs i=1
theorem bit_mem{W:BitVec 64}{u:Int}(h0:0<=u)(h1:u<64):W &&& bitB u≠0#64↔W.getLsbD u.toNat=true:=by
 have hb:bitB u=0#64 ||| 1#64 <<< u.toNat:=by rw [BitVec.zero_or];exact bit_sh h0 h1
 rw [hb]
 constructor
 ·intro h
  obtain ⟨x,hx⟩:=nz_listB.1 h
  rw [mem_andB,mem_orbit h0 h1,Df] at hx
  rcases hx.2 with h2|h2
  ·cases h2
  ·rw [←h2];exact (mem_listB.1 hx.1).2
 ·intro h
  exact nz_listB.2 ⟨u,mem_andB.2 ⟨mem_listB.2 ⟨h0,h⟩,(mem_orbit h0 h1).2 (.inr rfl)⟩⟩
theorem bit_all{u nd:Int}(h0:0<=u)(h1:u<nd)(h2:nd<=64):(bitB u &&& allB nd) &&& ~~~0#64≠0#64:=by
 rw [BitVec.not_zero,BitVec.and_allOnes,BitVec.and_comm]
 exact (bit_mem h0 om).2 (by rw [getLsb_allB om h2 om,decide_eq_true_eq];omega)
theorem insE_yes{W:BitVec 64}{es:List Pt}{k:Nat}(hk:k<es.length)(hr:(0<=(e_ es k).u/\(e_ es k).u<64)/\0<=(e_ es k).v/\(e_ es k).v<64)(h1:W &&& bitB (e_ es k).u≠0#64)(h2:W &&& bitB (e_ es k).v≠0#64):insE W (es.take (k+1))=insE W (es.take k)+1:=by
 rw [insE_take hk,(bit_mem hr.1.1 hr.1.2).1 h1,(bit_mem hr.2.1 hr.2.2).1 h2];rfl
theorem insE_no{W:BitVec 64}{es:List Pt}{k:Nat}(hk:k<es.length)(hr:(0<=(e_ es k).u/\(e_ es k).u<64)/\0<=(e_ es k).v/\(e_ es k).v<64)(h:¬W &&& bitB (e_ es k).u≠0#64\/¬W &&& bitB (e_ es k).v≠0#64):insE W (es.take (k+1))=insE W (es.take k):=by
 rw [insE_take hk]
 rcases h with h|h
 ·rw [bit_mem hr.1.1 hr.1.2,Bool.not_eq_true] at h
  rw [h];simp
 ·rw [bit_mem hr.2.1 hr.2.2,Bool.not_eq_true] at h
  rw [h];simp
theorem flat_succ{α:Type}(f:Nat->List α)(k:Nat):(List.range (k+1)).flatMap f=(List.range k).flatMap f++f k:=by
 rw [List.range_succ,List.flatMap_append];simp
theorem Gain_ok{κ:Ctx}{I:List Item}{nd:Int}{ve vw vb vk:Value}{al:BitVec 64}{es:List Pt}{ws bs cs:List Int}(hl:Sl κ I ve es)(hw:Sl κ I vw ws)(hb:Sl κ I vb bs)(hkc:Sl κ I vk cs)(hG:GrOk nd es)(hm:es.length<=2016)(hP:PlainP nd es ws bs cs)(wb:BitVec 64)(hW:subN nd wb)(hT:TabRd κ I 0 tzCells):eu Tryz.prog κ 232 [.agg #[ve,vw,vb,vk,U64 al,U64 (0#64)],U64 wb] I (λr J=>r = .tuple #[e7 (insE wb es),e7 (cntB wb)]/\I=J):=by
 have hrng:=hG.rng
 have hwl:=hP.wl
 have hbl:=hP.bl
 have hcl:=hP.cl
 refine Ce2 Tryz.func232 C C ?_
 refine Ai (Ge1 (A9 (cs:=[_,_,_,_,_,_]) C C C) λb1=>Ga C (Ga C (Af (Ap (Ai (Gf fld211_0 C (Gl ty46 ?_)))))))
 refine Gr (B0 (α:=Pt) (xs:=es) Bh C (Ba hl)) (Gm C (Af (A0 (B1 (σ:=Nat) (λs=>([(1,U64 wb),(2,.pointer (some ⟨b1,0,none⟩)),(4,e7 (insE wb (es.take s))),(5,e7 0),(11,ve),(12,e7 ((es.length:Nat):Int)),(13,e7 ((s:Nat):Int))]:Env)) (λs=>e8 b1 [ve,vw,vb,vk,U64 al,U64 (0#64)] 211::I) (λs=>(s<=es.length)) (λs=>es.length - s) 0 (show ((0:Nat)<=es.length) from om) (Aa C (Aa C (Aa (Dc C (by first|omega|(dsimp only<;>omega)|exact insE_yes hk2 her2 g24 c31|exact (insE_yes hk2 her2 g24 c31).symm|exact insE_no hk2 her2 (.inl g24)|exact insE_no hk2 her2 (.inr c31)|exact (insE_no hk2 her2 (.inl g24)).symm|exact (insE_no hk2 her2 (.inr c31)).symm|rfl)) (Aa C (Aa C (Aa C (Aa (Dc C (by first|omega|(dsimp only<;>omega)|exact insE_yes hk2 her2 g24 c31|exact (insE_yes hk2 her2 g24 c31).symm|exact insE_no hk2 her2 (.inl g24)|exact insE_no hk2 her2 (.inr c31)|exact (insE_no hk2 her2 (.inl g24)).symm|exact (insE_no hk2 her2 (.inr c31)).symm|rfl)) Bp))))))) (show Fit κ _ (e8 b1 [ve,vw,vb,vk,U64 al,U64 (0#64)] 211::I) from A1) ?_))))
 rintro k hp
 have hk:=hp
 have hib:=insE_bd wb (es.take k)
 have htl:(es.take k).length<=k:=by rw [List.length_take];omega
 refine Ai (Gr (A7 C C) (Af (Ap (A8 C (λc14=>?_) (λc14=>?_)))))
 ·refine Ay (Aj (Ap (A0 (Ai (Gm C (Gr (Az (α:=Pt) (xs:=es) Bh ty135 C C (Ba hl) om om) ?_))))))
  have hk2:k<es.length:=by omega
  have hed:=hG.edge (e_ es k) (Bf om om)
  have her2:(0<=(e_ es k).u/\(e_ es k).u<64)/\0<=(e_ es k).v/\(e_ es k).v<64:=by omega
  refine Gr (Bz (α:=Pt) (xs:=es) ty135 C (Ba hl) om om) (Ge1 (Au ty135 C) λb2=>Ga C (Ge0 (Bq ty135) ?_))
  refine Af (Ai (Gm C (Gf fld135_0 C (Gl ef ?_))))
  refine G.e (Ah call237 C C (Bit_ok ((e_ es k).u))) ?_
  rintro _ _ ⟨_,_,⟨rfl,rfl⟩,rfl,rfl⟩
  refine Gr (Da (a:=wb) (b:=bitB ((e_ es k).u)) C C) (Gr (Runs.neB (a:=wb &&& (bitB ((e_ es k).u))) (b:=0#64) C C) (Gm C (Bg (d:=24) C (λg24=>?_) (λg24=>?_))))
  ·refine e9 (Ad C) (e9 (Ab fld135_1 C) (e9 (As ef) ?_))
   refine D5 (Ck C C C) (Ah call237 C C (Bit_ok ((e_ es k).v))) ?_
   rintro _ _ ⟨_,_,⟨rfl,rfl⟩,rfl,rfl⟩
   refine e9 (Da (a:=wb) (b:=bitB ((e_ es k).v)) C C) (e9 (Runs.neB (a:=wb &&& (bitB ((e_ es k).v))) (b:=0#64) C C) (Gr (Ar C C) (Af (Aq (S9 31 6 1 2 4 5 11 12 13 C C C C C C C C C) (A8 C (λc31=>?_) (λc31=>?_))))))
   ·refine Ax (Gm C (Gf fld211_1 C (Gl ty22 ?_)))
    refine Gm C (Gr (Az (α:=Int) (xs:=ws) Ac ef C C (Ba hw) om om) (Gr (Bo (xs:=ws) ef C (Ba hw) om om) ?_))
    rw [hP.w1 k hk2]
    exact Gr (Rad C C) (Ga C (Bi (Ak (Aj (Aq (S7 4 1 2 5 11 12 13 C C C C C C C) (Ax (Gr (Rad C C) (Gm C (Bi (B5 ((k+1)) om (hL:=(Aa C (Aa C (Aa (Dc C (by first|omega|(dsimp only<;>omega)|exact insE_yes hk2 her2 g24 c31|exact (insE_yes hk2 her2 g24 c31).symm|exact insE_no hk2 her2 (.inl g24)|exact insE_no hk2 her2 (.inr c31)|exact (insE_no hk2 her2 (.inl g24)).symm|exact (insE_no hk2 her2 (.inr c31)).symm|rfl)) (Aa C (Aa C (Aa C (Aa (Dc C (by first|omega|(dsimp only<;>omega)|exact insE_yes hk2 her2 g24 c31|exact (insE_yes hk2 her2 g24 c31).symm|exact insE_no hk2 her2 (.inl g24)|exact insE_no hk2 her2 (.inr c31)|exact (insE_no hk2 her2 (.inl g24)).symm|exact (insE_no hk2 her2 (.inr c31)).symm|rfl)) Bp))))))))))))))))))
   ·exact Ay (Ak (Aj (Ax (Gr (Rad C C) (Gm C (Bi (B5 ((k+1)) om (hL:=(Aa C (Aa C (Aa (Dc C (by first|omega|(dsimp only<;>omega)|exact insE_yes hk2 her2 g24 c31|exact (insE_yes hk2 her2 g24 c31).symm|exact insE_no hk2 her2 (.inl g24)|exact insE_no hk2 her2 (.inr c31)|exact (insE_no hk2 her2 (.inl g24)).symm|exact (insE_no hk2 her2 (.inr c31)).symm|rfl)) (Aa C (Aa C (Aa C (Aa (Dc C (by first|omega|(dsimp only<;>omega)|exact insE_yes hk2 her2 g24 c31|exact (insE_yes hk2 her2 g24 c31).symm|exact insE_no hk2 her2 (.inl g24)|exact insE_no hk2 her2 (.inr c31)|exact (insE_no hk2 her2 (.inl g24)).symm|exact (insE_no hk2 her2 (.inr c31)).symm|rfl)) Bp)))))))))))))))
  ·exact eb (eb (eb (eb (eb (eb (Gr (Ao C C) (Af (Aq (S9 31 6 1 2 4 5 11 12 13 C C C C C C C C C) (C2 C (Ay (Ak (Aj (Ax (Gr (Rad C C) (Gm C (Bi (B5 ((k+1)) om (hL:=(Aa C (Aa C (Aa (Dc C (by first|omega|(dsimp only<;>omega)|exact insE_yes hk2 her2 g24 c31|exact (insE_yes hk2 her2 g24 c31).symm|exact insE_no hk2 her2 (.inl g24)|exact insE_no hk2 her2 (.inr c31)|exact (insE_no hk2 her2 (.inl g24)).symm|exact (insE_no hk2 her2 (.inr c31)).symm|rfl)) (Aa C (Aa C (Aa C (Aa (Dc C (by first|omega|(dsimp only<;>omega)|exact insE_yes hk2 her2 g24 c31|exact (insE_yes hk2 her2 g24 c31).symm|exact insE_no hk2 her2 (.inl g24)|exact insE_no hk2 her2 (.inr c31)|exact (insE_no hk2 her2 (.inl g24)).symm|exact (insE_no hk2 her2 (.inr c31)).symm|rfl)) Bp)))))))))))))))))))))))))
 ·refine Bv (Al (Al (A5 (Aj (Ap (Ai (Gm C ?_)))))))
  have hfull:es.take k=es:=List.take_of_length_le om
  rw [hfull]
  refine Gc2 (Ah call171 C C (MList_ok wb (Bx hT A3))) λad3 cp4=>?_
  refine Gr (Bs Ac C) (Gm C (Af (A0 (B1 (σ:=Nat) (λs=>([(2,.pointer (some ⟨b1,0,none⟩)),(4,e7 (insE wb es)),(5,e7 ((s:Nat):Int)),(41,.slice ad3 (eo wb).length cp4),(42,e7 ((((eo wb).length:Nat):Int))),(43,e7 ((s:Nat):Int))]:Env)) (λs=>vc 3 (.slice ad3 (eo wb).length cp4) (eo wb)::e8 b1 [ve,vw,vb,vk,U64 al,U64 (0#64)] 211::I) (λs=>(s<=(eo wb).length)) (λs=>(eo wb).length - s) 0 (show ((0:Nat)<=(eo wb).length) from om) (Aa C (Aa C (Aa (Dc C (by first|omega|(dsimp only<;>omega)|exact insE_yes hk2 her2 g24 c31|exact (insE_yes hk2 her2 g24 c31).symm|exact insE_no hk2 her2 (.inl g24)|exact insE_no hk2 her2 (.inr c31)|exact (insE_no hk2 her2 (.inl g24)).symm|exact (insE_no hk2 her2 (.inr c31)).symm|rfl)) (Aa C (Aa C (Aa (Dc C (by first|omega|(dsimp only<;>omega)|exact insE_yes hk2 her2 g24 c31|exact (insE_yes hk2 her2 g24 c31).symm|exact insE_no hk2 her2 (.inl g24)|exact insE_no hk2 her2 (.inr c31)|exact (insE_no hk2 her2 (.inl g24)).symm|exact (insE_no hk2 her2 (.inr c31)).symm|rfl)) Bp)))))) (show Fit κ _ (vc 3 (.slice ad3 (eo wb).length cp4) (eo wb)::e8 b1 [ve,vw,vb,vk,U64 al,U64 (0#64)] 211::I) from A1) ?_))))
  rintro k hp
  have hk:=hp
  have hib:=insE_bd wb es
  have hll:=E5 wb
  have hvr:k<(eo wb).length->0<=(e_ (eo wb) k)/\(e_ (eo wb) k)<nd:=λh=>by have hmm:=Bf (xs:=eo wb) (i:=(k:Int)) om om;have h1:=listB_lt hmm;have h2:=hW _ hmm;omega
  refine Ai (Gr (A7 C C) (Af (Ap (A8 C (λc44=>?_) (λc44=>?_)))))
  ·refine Ay (Aj (Ap (A0 (Ai (Gr (Az (α:=Int) (xs:=eo wb) Ac ef C C Bk om om) (Gr (Bo (xs:=eo wb) ef C Bk om om) (Ga C ?_)))))))
   have hv2:=hvr om
   refine Af (Ai (Gm C (Gf fld211_2 C (Gl ty22 ?_))))
   refine Gm C (Gr (Az (α:=Int) (xs:=bs) Ac ef C C (Ba hb) om om) (Gr (Bo (xs:=bs) ef C (Ba hb) om om) ?_))
   rw [hP.b0 (e_ (eo wb) k) hv2.1 hv2.2]
   refine Gr (Rad C C) (Ga C (Af (Aq (S7 4 9 2 5 41 42 43 C C C C C C C) (Ax (Gm C (Gf fld211_3 C (Gl ty22 ?_)))))))
   refine Gm C (Gr (Az (α:=Int) (xs:=cs) Ac ef C C (Ba hkc) om om) (Gr (Bo (xs:=cs) ef C (Ba hkc) om om) ?_))
   rw [hP.c1 (e_ (eo wb) k) hv2.1 hv2.2]
   exact Gr (Rad C C) (Ga C (Bi (Ak (Aj (Aq (S6 5 4 2 41 42 43 C C C C C C) (Ax (Gr (Rad C C) (Gm C (Bi (B5 ((k+1)) om (hL:=(Aa C (Aa (Dc C (by first|omega|(dsimp only<;>omega)|exact insE_yes hk2 her2 g24 c31|exact (insE_yes hk2 her2 g24 c31).symm|exact insE_no hk2 her2 (.inl g24)|exact insE_no hk2 her2 (.inr c31)|exact (insE_no hk2 her2 (.inl g24)).symm|exact (insE_no hk2 her2 (.inr c31)).symm|rfl)) (Aa (Dc C (by first|omega|(dsimp only<;>omega)|exact insE_yes hk2 her2 g24 c31|exact (insE_yes hk2 her2 g24 c31).symm|exact insE_no hk2 her2 (.inl g24)|exact insE_no hk2 her2 (.inr c31)|exact (insE_no hk2 her2 (.inl g24)).symm|exact (insE_no hk2 her2 (.inr c31)).symm|rfl)) (Aa C (Aa C (Aa (Dc C (by first|omega|(dsimp only<;>omega)|exact insE_yes hk2 her2 g24 c31|exact (insE_yes hk2 her2 g24 c31).symm|exact insE_no hk2 her2 (.inl g24)|exact insE_no hk2 her2 (.inr c31)|exact (insE_no hk2 her2 (.inl g24)).symm|exact (insE_no hk2 her2 (.inr c31)).symm|rfl)) Bp)))))))))))))))))
  ·refine Bv (Al (Al (A5 (Aj (Ai (Gm C (Gm C (Ga C (Ga C (Af (A2 ?_)))))))))))
   have hkk:(k:Int)=cntB wb:=by unfold cntB;omega
   exact Cu C C C I A3 ⟨by rw [hkk],rfl⟩
theorem Arc_ok{κ:Ctx}{I:List Item}{b:Nat}{nn:Int}{a:Option Addr}{c:Nat}{arcs:List Arc}(f t m:Int)(hlen:arcs.length<=100000):eu Tryz.prog κ 281 [e7 f,e7 t,e7 m,.pointer (some ⟨b,0,none⟩)] (e8 b [e7 nn,e7 0,e7 1,.slice a arcs.length c] 303::vc 305 (.slice a arcs.length c) (arcs)::I) (λr J=>∃a2 c2,r=e7 ((arcs.length:Nat):Int)/\J=e8 b [e7 nn,e7 0,e7 1,.slice a2 (arcs++[(⟨f,t,m⟩:Arc)]).length c2] 303::vc 305 (.slice a2 (arcs++[(⟨f,t,m⟩:Arc)]).length c2) (arcs++[(⟨f,t,m⟩:Arc)])::I):=by
 refine Ce4 Tryz.func281 C C ?_
 refine Ai (Ga C (Af (Ai (Gf fld303_3 C (Gl ty301 ?_)))))
 refine Gm C (Gm C (Gm C (Gr (Bc (cells:=[_,_,_]) ty305 Tryz.underlying305 pl305 C C) (Ge1 (Cf (α:=Arc) (cs:=[_,_,_]) (xs:=[⟨f,t,m⟩]) Dt ty305 C C dc dc C C C C) λad1=>?_))))
 refine Ge2 (Cm (α:=Arc) (e:=305) (xs:=arcs) (ys:=([⟨f,t,m⟩]:List Arc)) Dt ty305 C C C mm Bk lcn dc C (λ_ _=>am)) λad2 cp3=>?_
 refine Gf fld303_3 C (Ge0 (Ce (cs:=[_,_,_,_]) (vs:=[_]) (cs':=[_,_,_,_]) ty301) ?_)
 refine Af (Aq (S1 3 C) (Ai (Gf fld303_3 C (Gl ty301 ?_))))
 refine Gr (Bs Dt C) (Gr (Runs.sub C C (by unfold InR;simp only [List.length_append,List.length_cons,List.length_nil];omega)) (Ga C (Af (A2 ?_))))
 have hal:(((arcs++[(⟨f,t,m⟩:Arc)]).length:Nat):Int) - 1=((arcs.length:Nat):Int):=by simp only [List.length_append,List.length_cons,List.length_nil];omega
 exact A6 C C (e8 b [e7 nn,e7 0,e7 1,.slice ad2 (arcs++[(⟨f,t,m⟩:Arc)]).length cp3] 303::vc 305 (.slice ad2 (arcs++[(⟨f,t,m⟩:Arc)]).length cp3) (arcs++[(⟨f,t,m⟩:Arc)])::I) B7 ⟨ad2,cp3,by rw [hal],rfl⟩
theorem Part_ok{κ:Ctx}{I:List Item}{ve vw vb vk vf:Value}{al:BitVec 64}{fl:List Int}{p q i total:Int}(hf:Sl κ I vf fl)(hp:p<fl.length)(hq:q<fl.length)(hb:∀x∈fl,0<=x/\x<=4096)(ht:0<=total/\total<=4096):eu Tryz.prog κ 283 [.agg #[ve,vw,vb,vk,U64 al,U64 (0#64)],e7 i,.agg #[e7 p,e7 q],vf,e7 total] I (λr J=>∃x:Int,r=e7 x/\(0<=p->0<=q->x=total - e_ fl q)/\I=J):=by
 refine Ce5 Tryz.func283 C C ?_
 refine Ai (Ge1 (A9 (cs:=[_,_,_,_,_,_]) C C C) λb1=>Ge1 (A9 (cs:=[_,_]) C C C) λb2=>Ga C (Af (Ai (Ge1 (Au ty64 C) λb3=>Af (Ap (Ai (Gl2 ty64 ?_)))))))
 refine Gm C (Af (A0 (B1 (σ:=Nat×Int×Int) (λs=>([(3,vf),(4,e7 total),(7,.pointer (some ⟨b2,0,none⟩)),(11,.pointer (some ⟨b3,0,none⟩)),(15,.agg #[e7 p,e7 q]),(16,e7 ((s.1:Nat):Int))]:Env)) (λs=>e8 b3 [e7 (s.2.1),e7 (s.2.2)] 64::e8 b2 [e7 p,e7 q] 64::e8 b1 [ve,vw,vb,vk,U64 al,U64 (0#64)] 211::I) (λs=>(s.1<=2)/\(0<=s.2.1/\s.2.1<=4096)/\(0<=s.2.2/\s.2.2<=4096)/\(0<=p->0<=q->2<=s.1->s.2.2=e_ fl q)) (λs=>2 - s.1) (0,0,0) (show ((0:Nat)<=2)/\(0<=(0:Int)/\(0:Int)<=4096)/\(0<=(0:Int)/\(0:Int)<=4096)/\(0<=p->0<=q->2<=(0:Nat)->(0:Int)=e_ fl q) from ⟨om,om,om,(λ_ _ h=>by omega)⟩) (Aa C (Aa C (Aa C (Aa C (Aa C (Aa Ca Bp)))))) (show Fit κ _ (e8 b3 [e7 ((0)),e7 ((0))] 64::e8 b2 [e7 p,e7 q] 64::e8 b1 [ve,vw,vb,vk,U64 al,U64 (0#64)] 211::I) from A1) ?_)))
 rintro ⟨j,e0,e1⟩ hp
 dsimp only at hp ⊢
 obtain ⟨hj,he0,he1,he2⟩:=hp
 have hpq:(if (j:Int)=0 then p else q)<fl.length:=by split<;>assumption
 refine Ai (Gr (A7 C C) (Af (Ap (A8 C (λc17=>?_) (λc17=>?_)))))
 ·refine Ay (Aj (Ap (A0 (Ai (Gm C (Gr (Runs.index2 (ix2a _ _) (ix2b _ _) C C om) (Ga C (Ga C (Af (Ai (Gm C (Gr (B9 C C) (Af (A8 C (λc21=>?_) (λc21=>?_)))))))))))))))
  ·refine Ax (Gm C (Gm C (Gm C (Gr (Az (α:=Int) (xs:=fl) Ac ef C C (Ba hf) om om) (Gr (Bo (xs:=fl) ef C (Ba hf) om om) ?_)))))
   have hvx:=hb _ (Bf (xs:=fl) (i:=(if (j:Int)=0 then p else q)) om om)
   have hxe:j=1->e_ fl (if (j:Int)=0 then p else q)=e_ fl q:=λh=>by rw [if_neg om]
   generalize e_ fl (if (j:Int)=0 then p else q)=xv at hvx hxe ⊢
   refine Gr (Cb B3 ty2 C C om om) (Ge0 (Eff.setC2 (p:=e0) (q:=e1) (j:=(j:Int)) (n:=xv) ef C C C om am) ?_)
   exact Bi (Ak (Aj (Aq (S6 3 4 7 11 15 16 C C C C C C) (Ax (Gr (Rad C C) (Gm C (Bi (B5 ((j+1),(if (j:Int)=0 then xv else e0),(if (j:Int)=0 then e1 else xv)) (by dsimp only;exact ⟨om,(by first|exact he0|(split<;>first|exact he0|exact hvx)),(by first|exact he1|(split<;>first|exact he1|exact hvx)),(λh1 h2 h3=>by first|(rw [if_neg om];exact hxe om)|(exfalso;rcases (show j=0\/j=1 by omega) with e|e<;>subst e<;>simp at c21<;>omega))⟩)))))))))
  ·exact Ay (Ak (Aj (Ax (Gr (Rad C C) (Gm C (Bi (B5 ((j+1),(e0),(e1)) (by dsimp only;exact ⟨om,(by first|exact he0|(split<;>first|exact he0|exact hvx)),(by first|exact he1|(split<;>first|exact he1|exact hvx)),(λh1 h2 h3=>by first|(rw [if_neg om];exact hxe om)|(exfalso;rcases (show j=0\/j=1 by omega) with e|e<;>subst e<;>simp at c21<;>omega))⟩))))))))
 ·refine Bv (Al (Al (A5 (Aj (Ai (Gm C (Gr (Cb B3 ty2 C C om om) (Gl ef ?_))))))))
  refine Gr (Rsu C C) (Gr (Cb B3 ty2 C C om om) (Gl ef ?_))
  refine Gr (Rsu C C) (Ga C (Af (Aq (S3 14 7 11 C C C) (Ap (Ai (Gr (Cb B3 ty2 C C om om) (Gl ef ?_)))))))
  refine Gr (B9 C C) (Gm C (Bg (d:=39) C (λg39=>?_) (λg39=>?_)))
  ·refine e9 (Cb B3 ty2 C C om om) (e9 (As ef) ?_)
   refine e9 (A7 C C) (Gr (Ar C C) (Af (A8 C (λc43=>?_) (λc43=>?_))))
   ·refine Ax (Ga C (Af (Ai (Gr (Cb B3 ty2 C C om om) (Gl ef ?_)))))
    exact Gm C (Gr (Rad C C) (Ga C (Af (Aq (S1 10 C) (A2 (A6 C C I A3 ⟨_,rfl,λh1 h2=>by have h3:=he2 h1 h2 om;omega,rfl⟩))))))
   ·refine Ay (Aj (Ai (Gr (Cb B3 ty2 C C om om) (Gl ef ?_))))
    exact Gm C (Gr (Rad C C) (Ga C (Af (Aq (S1 10 C) (A2 (A6 C C I A3 ⟨_,rfl,λh1 h2=>by have h3:=he2 h1 h2 om;omega,rfl⟩))))))
  ·refine eb (eb (eb (Gr (Ao C C) (Af (C2 C (Ay (Aj (Ai (Gr (Cb B3 ty2 C C om om) (Gl ef ?_))))))))))
   exact Gm C (Gr (Rad C C) (Ga C (Af (Aq (S1 10 C) (A2 (A6 C C I A3 ⟨_,rfl,λh1 h2=>by have h3:=he2 h1 h2 om;omega,rfl⟩))))))
end Go.Sl
/- The densest set's proof: at the last price every edge is given away whole, and no node is given more than the price. No Go. No conditions. -/
namespace Go.Sl
def loadS(es:List Pt)(D:Int)(parts:List Int)(v:Int):Int:=sumN es.length λi=>(if (e_ es i).u=v then e_ parts i else 0)+(if (e_ es i).v=v then D - e_ parts i else 0)
structure SplitP (nd N D:Int) (es:List Pt) (parts:List Int):Prop where
 len:parts.length=es.length
 rng:∀i:Nat,i<es.length->0<=e_ parts i/\e_ parts i<=D
 load:∀v:Int,0<=v->v<nd->loadS es D parts v<=N
def edgF(nd:Int)(f:List Int)(i j:Nat):Int:=e_ f ((nd.toNat*2+(3*i+j):Nat):Int)
structure PartsP (nd N D:Int) (es:List Pt) (B:BitVec 64) (parts:List Int):Prop where
 len:parts.length=es.length
 flow:∃f,IsFlow (denseNet nd N D es) f/\N*cntB B+D*((es.length:Int) - insE B es)<=netF (denseNet nd N D es) f 0/\∀i:Nat,i<es.length->e_ parts i=D - edgF nd f i 2
theorem flat_at{α:Type}[Inhabited α](f:Nat->List α)(c:Nat)(h:∀i,(f i).length=c)(i j:Nat)(hj:j<c):∀n:Nat,i<n->e_ ((List.range n).flatMap f) ((c*i+j:Nat):Int)=e_ (f i) j
 |0,hi=>by omega
 |n+1,hi=>by
  have hl:=flat_len f c h n
  have hmul:∀m:Nat,i<m->c*i+j<m*c:=λm hm=>by
   have h1:c*(i+1)<=c*m:=Nat.mul_le_mul_left c hm
   rw [Nat.mul_succ,Nat.mul_comm c m] at h1;omega
  have hb:=hmul (n+1) hi
  have hl2:=flat_len f c h (n+1)
  rw [C4 _ _ (by rw [hl2];exact hb),C4 _ _ (by rw [h];exact hj)]
  have e1:(List.range (n+1)).flatMap f=(List.range n).flatMap f++f n:=by rw [List.range_succ,List.flatMap_append];simp
  by_cases hin:i<n
  ·have ih:=flat_at f c h i j hj n hin
   rw [C4 _ _ (by rw [hl];exact hmul n hin),C4 _ _ (by rw [h];exact hj)] at ih
   rw [←ih]
   simp only [e1]
   rw [List.getElem_append_left (by rw [hl];exact hmul n hin)]
  ·have ein:i=n:=by omega
   subst ein
   have hge:((List.range i).flatMap f).length<=c*i+j:=by rw [hl,Nat.mul_comm];omega
   simp only [e1]
   rw [List.getElem_append_right hge]
   congr 1
   rw [hl,Nat.mul_comm];omega
theorem sumN_app(a:Nat)(g:Nat->Int):∀b:Nat,sumN (a+b) g=sumN a g+sumN b (λi=>g (a+i))
 |0=>by simp [sumN]
 |b+1=>by
  show sumN (a+b+1) g=_
  simp only [sumN]
  rw [sumN_app a g b];omega
theorem sumN_two(g:Nat->Int):∀a:Nat,sumN (a*2) g=sumN a λv=>g (2*v)+g (2*v+1)
 |0=>rfl
 |a+1=>by
  have e:(a+1)*2=a*2+1+1:=by omega
  rw [e]
  simp only [sumN]
  rw [sumN_two g a,Nat.mul_comm a 2];omega
theorem sumN_three(g:Nat->Int):∀a:Nat,sumN (a*3) g=sumN a λv=>g (3*v)+g (3*v+1)+g (3*v+2)
 |0=>rfl
 |a+1=>by
  have e:(a+1)*3=a*3+1+1+1:=by omega
  rw [e]
  simp only [sumN]
  rw [sumN_three g a,Nat.mul_comm a 3]
  have e2:3*a+1+1=3*a+2:=rfl
  rw [e2];omega
section
variable {nd N D:Int}{es:List Pt}
theorem arc_node{v j:Nat}(hv:v<nd.toNat)(hj:j<2):e_ (denseArcs nd N D es) ((2*v+j:Nat):Int)=e_ (nodeArcs N v) j:=by
 have hl:=flat_len (nodeArcs N) 2 (λ_=>rfl) nd.toNat
 have h:=flat_at (nodeArcs N) 2 (λ_=>rfl) v j hj nd.toNat hv
 rw [←h]
 unfold denseArcs
 rw [C4 _ _ (by rw [List.length_append,hl];omega),C4 _ _ (by rw [hl];omega),List.getElem_append_left (by rw [hl];omega)]
theorem arc_edge{i j:Nat}(hi:i<es.length)(hj:j<3):e_ (denseArcs nd N D es) ((nd.toNat*2+(3*i+j):Nat):Int)=e_ (edgeArcs nd D es i) j:=by
 have hl:=flat_len (nodeArcs N) 2 (λ_=>rfl) nd.toNat
 have hl2:=flat_len (edgeArcs nd D es) 3 (λ_=>rfl) es.length
 have h:=flat_at (edgeArcs nd D es) 3 (λ_=>rfl) i j hj es.length hi
 rw [←h]
 unfold denseArcs
 rw [C4 _ _ (by rw [List.length_append,hl,hl2];omega),C4 _ _ (by rw [hl2];omega),List.getElem_append_right (by rw [hl];omega)]
 congr 1
 rw [hl];omega
theorem net_dense(f:List Int)(z:Int):netF (denseNet nd N D es) f z =
  sumN nd.toNat (λv=>((if 0=z then e_ f ((2*v:Nat):Int) else 0) - (if 2+(v:Int)=z then e_ f ((2*v:Nat):Int) else 0))+((if 2+(v:Int)=z then e_ f ((2*v+1:Nat):Int) else 0) - (if 1=z then e_ f ((2*v+1:Nat):Int) else 0)))
  + sumN es.length (λi=>((if 0=z then edgF nd f i 0 else 0) - (if 2+nd+(i:Int)=z then edgF nd f i 0 else 0))+((if 2+nd+(i:Int)=z then edgF nd f i 1 else 0) - (if 2+(e_ es i).u=z then edgF nd f i 1 else 0))+((if 2+nd+(i:Int)=z then edgF nd f i 2 else 0) - (if 2+(e_ es i).v=z then edgF nd f i 2 else 0))):=by
 unfold netF
 have el:(denseNet nd N D es).arcs.length=nd.toNat*2+es.length*3:=denseArcs_len nd N D es
 have ea:(denseNet nd N D es).arcs=denseArcs nd N D es:=rfl
 rw [el,sumN_app,sumN_two,sumN_three,ea]
 congr 1
 ·refine C7 _ λv hv=>?_
  have h0:=arc_node (N:=N) (D:=D) (es:=es) (j:=0) hv dc
  have h1:=arc_node (N:=N) (D:=D) (es:=es) (j:=1) hv dc
  rw [Nat.add_zero] at h0
  rw [h0,h1]
  rfl
 ·refine C7 _ λi hi=>?_
  have h0:=arc_edge (nd:=nd) (N:=N) (D:=D) (j:=0) hi dc
  have h1:=arc_edge (nd:=nd) (N:=N) (D:=D) (j:=1) hi dc
  have h2:=arc_edge (nd:=nd) (N:=N) (D:=D) (j:=2) hi dc
  rw [Nat.add_zero] at h0
  rw [h0,h1,h2]
  rfl
theorem splitP_of(hG:GrOk nd es)(hN:0<=N){B:BitVec 64}{parts:List Int}(h:PartsP nd N D es B parts)(hle:insE B es*D<=N*cntB B):SplitP nd N D es parts:=by
 obtain ⟨f,hf,hval,hp⟩:=h.flow
 have hr:=hG.rng
 have ea:(denseNet nd N D es).arcs=denseArcs nd N D es:=rfl
 have el:(denseNet nd N D es).arcs.length=nd.toNat*2+es.length*3:=denseArcs_len nd N D es
 have cn:∀v:Nat,v<nd.toNat->e_ f ((2*v:Nat):Int)=0/\e_ f ((2*v+1:Nat):Int)<=N:=λv hv=>by
  have a0:=hf.cap (2*v) om
  have a1:=hf.cap (2*v+1) om
  have h0:=arc_node (N:=N) (D:=D) (es:=es) (j:=0) hv dc
  rw [Nat.add_zero] at h0
  rw [ea,h0] at a0
  rw [ea,arc_node hv dc] at a1
  have e0:(e_ (nodeArcs N v) ((0:Nat):Int)).cap=0:=rfl
  have e1:(e_ (nodeArcs N v) ((1:Nat):Int)).cap=N:=rfl
  omega
 have ce:∀i:Nat,i<es.length->∀j:Nat,j<3->0<=edgF nd f i j/\edgF nd f i j<=D:=λi hi j hj=>by
  have a:=hf.cap (nd.toNat*2+(3*i+j)) om
  rw [ea,arc_edge hi hj] at a
  have e:(e_ (edgeArcs nd D es i) j).cap=D:=by
   rcases (show j=0\/j=1\/j=2 by omega) with rfl|rfl|rfl<;>rfl
  rw [e] at a;exact a
 -- the arcs out of the source are full
 have hfull:∀i:Nat,i<es.length->edgF nd f i 0=D:=by
  have hs:netF (denseNet nd N D es) f 0=sumN es.length λi=>edgF nd f i 0:=by
   rw [net_dense]
   rw [Fb (m:=nd.toNat) λv hv=>by
    rw [if_pos rfl,if_neg om,if_neg om,if_neg om,(cn v hv).1];rfl]
   rw [Int.zero_add]
   refine C7 _ λi hi=>?_
   have he:=hG.edge (e_ es i) (Bf om om)
   rw [if_pos rfl,if_neg om,if_neg om,if_neg om,if_neg om,if_neg om];omega
  have hc:sumN es.length (λ_=>D)=D*es.length:=by
   have:∀m:Nat,sumN m (λ_=>D)=D*m:=λm=>by
    induction m with
    |zero=>simp [sumN]
    |succ m ih=>simp only [sumN];rw [ih];push_cast;rw [Int.mul_add,Int.mul_one]
   exact this _
  have h1:=sumN_le es.length (g:=λi=>edgF nd f i 0) (h:=λ_=>D) λi hi=>(ce i hi 0 dc).2
  have e1:D*((es.length:Int) - insE B es)=D*es.length - D*insE B es:=Int.mul_sub _ _ _
  have e2:insE B es*D=D*insE B es:=Int.mul_comm _ _
  exact sumN_eq_terms es.length (λi hi=>(ce i hi 0 dc).2) om
 -- what comes to an edge goes to its ends
 have hcons:∀i:Nat,i<es.length->edgF nd f i 1+edgF nd f i 2=D:=λi hi=>by
  have h0:=hf.cons (2+nd+(i:Int)) om (by show 2+nd+(i:Int)<2+nd+(es.length:Int);omega) (by show 2+nd+(i:Int)≠0;omega) (by show 2+nd+(i:Int)≠1;omega)
  rw [net_dense] at h0
  rw [Fb (m:=nd.toNat) λv hv=>by
    rw [if_neg om,if_neg om,if_neg om,if_neg om];rfl] at h0
  rw [Int.zero_add] at h0
  rw [C7 (h:=λk=>if k=i then edgF nd f i 1+edgF nd f i 2 - edgF nd f i 0 else 0) _ λk hk=>by
    have he:=hG.edge (e_ es k) (Bf om om)
    by_cases e:k=i
    ·subst e
     rw [if_neg om,if_pos rfl,if_pos rfl,if_neg om,if_pos rfl,if_neg om,if_pos rfl];omega
    ·rw [if_neg om,if_neg om,if_neg om,if_neg om,if_neg om,if_neg om,if_neg e];rfl] at h0
  rw [sumN_at hi] at h0
  have:=hfull i hi
  omega
 refine ⟨h.len,λi hi=>?_,λv h0 h1=>?_⟩
 ·have:=ce i hi 2 dc
  rw [hp i hi];omega
 ·have hv:=hf.cons (2+v) om (by show 2+v<2+nd+(es.length:Int);omega) (by show 2+v≠0;omega) (by show 2+v≠1;omega)
  rw [net_dense] at hv
  obtain ⟨w,rfl⟩:=Int.eq_ofNat_of_zero_le h0
  rw [C7 (h:=λk=>if k=w then e_ f ((2*w+1:Nat):Int) else 0) _ λk hk=>by
    by_cases e:k=w
    ·subst e
     rw [if_neg om,if_pos rfl,if_pos rfl,if_neg om,if_pos rfl,(cn k hk).1];omega
    ·rw [if_neg om,if_neg om,if_neg om,if_neg om,if_neg e];rfl] at hv
  rw [sumN_at om] at hv
  have hl:loadS es D parts (w:Int)+sumN es.length (λi=>((if 0=2+(w:Int) then edgF nd f i 0 else 0) - (if 2+nd+(i:Int)=2+(w:Int) then edgF nd f i 0 else 0))+((if 2+nd+(i:Int)=2+(w:Int) then edgF nd f i 1 else 0) - (if 2+(e_ es i).u=2+(w:Int) then edgF nd f i 1 else 0))+((if 2+nd+(i:Int)=2+(w:Int) then edgF nd f i 2 else 0) - (if 2+(e_ es i).v=2+(w:Int) then edgF nd f i 2 else 0)))=0:=by
   unfold loadS
   rw [←sumN_add]
   refine Fb _ λi hi=>?_
   rw [hp i hi,if_neg (show ¬(0:Int)=2+(w:Int) by omega),if_neg (show ¬2+nd+(i:Int)=2+(w:Int) by omega),if_neg (show ¬2+nd+(i:Int)=2+(w:Int) by omega),if_neg (show ¬2+nd+(i:Int)=2+(w:Int) by omega)]
   have:=hcons i hi
   by_cases e1:(e_ es i).u=(w:Int)<;>by_cases e2:(e_ es i).v=(w:Int)
   ·rw [if_pos e1,if_pos e2,if_pos om,if_pos om];omega
   ·rw [if_pos e1,if_neg e2,if_pos om,if_neg om];omega
   ·rw [if_neg e1,if_pos e2,if_neg om,if_pos om];omega
   ·rw [if_neg e1,if_neg e2,if_neg om,if_neg om];omega
  have:=(cn w om).2
  omega
theorem splitP_nil(hG:GrOk nd es)(h:nd=0):SplitP nd 0 1 es []:=by
 have he:es=[]:=by
  cases es with
  |nil=>rfl
  |cons e t=>
   have:=hG.edge e List.mem_cons_self
   omega
 subst he
 exact ⟨rfl,λi hi=>absurd hi (Nat.not_lt_zero i),λv h0 h1=>by omega⟩
end
def SplitB(nd:Int)(es:List Pt)(N D E:Int)(parts:List Int):Prop:=checkG nd es=0->E=D/\SplitP nd N D es parts
end Go.Sl
namespace Go.Sl
open Go.Proofs
set_option maxRecDepth 4000
def stepP(q:Int)(j:Nat):Pt:=if j=0 then ⟨-1, -1⟩ else if j=1 then ⟨q, -1⟩ else ⟨q,q+1⟩
theorem step_first{fs fs3:List Pt}{k2 j:Nat}{q n:Int}(h:fs3=fs.set k2 (stepP q j))(hk:k2<fs.length)(hj:j<2)(hn:n=q+(j:Int)):List.set fs3 ((k2:Int)).toNat (setP2 (e_ fs3 k2) (j:Int) n)=fs.set k2 (stepP q (j+1)):=by
 subst h hn
 rw [Int.toNat_natCast,at_setn _ _ _ _ hk,if_pos rfl,List.set_set]
 congr 1
 rcases (show j=0\/j=1 by omega) with rfl|rfl<;>simp [setP2,stepP]
theorem first_next{nd:Int}{fs fs3:List Pt}{k2 j:Nat}(h:fs3=fs.set k2 (stepP (2*nd+3*(k2:Int)+1) j))(hj:j=2)(hk:k2<fs.length)(hfs:∀i:Nat,i<k2->e_ fs i=stepP (2*nd+3*(i:Int)+1) 2):∀i:Nat,i<k2+1->e_ fs3 i=stepP (2*nd+3*(i:Int)+1) 2:=λi hi=>by
 subst h hj
 rw [at_setn _ _ _ _ hk]
 by_cases e:k2=i
 ·subst e;rw [if_pos rfl]
 ·rw [if_neg e];exact hfs i om
theorem flow_small{nd N D:Int}{es:List Pt}{f:List Int}(hN:0<=N/\N<=4096)(hD:0<=D/\D<=4096)(hf:IsFlow (denseNet nd N D es) f):∀x∈f,0<=x/\x<=4096:=λx hx=>by
 obtain ⟨i,hi,rfl⟩:=List.getElem_of_mem hx
 have hi2:i<(denseNet nd N D es).arcs.length:=by rw [←hf.len];exact hi
 have h:=hf.cap i hi2
 rw [C4 f i hi] at h
 have hm:e_ (denseArcs nd N D es) i∈denseArcs nd N D es:=Bf om (by have:i<(denseArcs nd N D es).length:=hi2;omega)
 have hc:(e_ (denseArcs nd N D es) i).cap<=4096:=by
  rcases mem_denseArcs.1 hm with ⟨v,hv,h⟩|⟨j,hj,h⟩
  ·simp only [nodeArcs,List.mem_cons,List.not_mem_nil,or_false] at h
   rcases h with h|h<;>rw [h]<;>simp only<;>omega
  ·simp only [edgeArcs,List.mem_cons,List.not_mem_nil,or_false] at h
   rcases h with h|h|h<;>rw [h]<;>simp only<;>omega
 have e:(denseNet nd N D es).arcs=denseArcs nd N D es:=rfl
 rw [e] at h
 omega
theorem or_yes{B:BitVec 64}{k:Nat}{p:Int->Prop}(hk:k<64)(h:∀v:Int,v∈eo B↔(0<=v/\v<(k:Int))/\p v)(hp:p (k:Int)):∀v:Int,v∈eo (B ||| bitB (k:Int))↔(0<=v/\v<((k+1:Nat):Int))/\p v:=λv=>by
 rw [bit_sh om om]
 rw [mem_orbit om om,h v]
 constructor
 ·rintro (⟨h1,h2⟩|h1)
  ·exact ⟨by omega,h2⟩
  ·have:v=(k:Int):=by omega
   subst this;exact ⟨by omega,hp⟩
 ·rintro ⟨h1,h2⟩
  by_cases e:v=(k:Int)
  ·right;omega
  ·left;exact ⟨by omega,h2⟩
theorem or_no{B:BitVec 64}{k:Nat}{p:Int->Prop}(h:∀v:Int,v∈eo B↔(0<=v/\v<(k:Int))/\p v)(hp:¬p (k:Int)):∀v:Int,v∈eo B↔(0<=v/\v<((k+1:Nat):Int))/\p v:=λv=>by
 rw [h v]
 constructor
 ·rintro ⟨h1,h2⟩;exact ⟨by omega,h2⟩
 ·rintro ⟨h1,h2⟩
  by_cases e:v=(k:Int)
  ·subst e;exact absurd h2 hp
  ·exact ⟨by omega,h2⟩
theorem solve_of{nd N D:Int}{es:List Pt}(hG:GrOk nd es)(hm:es.length<=2016)(hN:0<=N/\N<=4096)(hD:0<=D/\D<=4096){f:List Int}{side:List Bool}(hB:BothP (denseNet nd N D es) f side){B:BitVec 64}{k:Nat}(hk:k=nd.toNat)
  (h:∀v:Int,v∈eo B↔(0<=v/\v<(k:Int))/\e_ side (2+v)=true):SolveP nd N D es B:=by
 obtain ⟨T,hT1,hT2⟩:=hB.great
 have hr:=hG.rng
 refine great_solve hG hm om om hB.flow hT1 λv=>?_
 rw [h v]
 constructor
 ·rintro ⟨h1,h2⟩
  rw [hT2 (2+v) om (by show 2+v<2+nd+(es.length:Int);omega)] at h2
  exact ⟨by omega,h2⟩
 ·rintro ⟨h1,h2⟩
  refine ⟨by omega,?_⟩
  rw [hT2 (2+v) om (by show 2+v<2+nd+(es.length:Int);omega)]
  exact h2
theorem parts_of{nd N D:Int}{es:List Pt}(hG:GrOk nd es)(hm:es.length<=2016)(hN:0<=N/\N<=4096)(hD:0<=D/\D<=4096){f:List Int}{side:List Bool}(hB:BothP (denseNet nd N D es) f side){B:BitVec 64}{k:Nat}(hk:k=nd.toNat)
  (h:∀v:Int,v∈eo B↔(0<=v/\v<(k:Int))/\e_ side (2+v)=true) {parts:List Int} (hl:parts.length=es.length) (hp:∀i:Nat,i<es.length->e_ parts i=D - edgF nd f i 2):PartsP nd N D es B parts:=by
 obtain ⟨T,hT1,hT2⟩:=hB.great
 have hr:=hG.rng
 have hs:subN nd B:=λx hx=>by have:=((h x).1 hx).1;omega
 have hc:costW nd N D es (λv=>T (2+v))=costW nd N D es (λv=>B.getLsbD v.toNat):=cost_congr hG λv h0 h1=>by
  rw [Bool.eq_iff_iff]
  have a:=h v
  rw [Ed,hT2 (2+v) om (by show 2+v<2+nd+(es.length:Int);omega)] at a
  constructor
  ·intro hh;exact (a.2 ⟨by omega,hh⟩).2
  ·intro hh;exact (a.1 ⟨h0,hh⟩).2
 rw [cost_bits hr.1 hr.2 hs] at hc
 have h1:=cost_le_cut (nd:=nd) (N:=N) (D:=D) (es:=es) hD.1 T hT1.src hT1.snk
 have h2:netF (denseNet nd N D es) f 0=cutS (denseNet nd N D es) T:=hT1.value (denseNet_ok hG hm om om) hB.flow
 exact ⟨hl,f,hB.flow,by omega,hp⟩
theorem parts_next{nd de:Int}{fl parts:List Int}{fs:List Pt}{k4:Nat}{px:Int}(h0:0<=nd)(hs:e_ fs k4=stepP (2*nd+3*(k4:Int)+1) 2)(hx:0<=(e_ fs k4).u->0<=(e_ fs k4).v->px=de - e_ fl (e_ fs k4).v)
  (hl:parts.length=k4) (hpp:∀i:Nat,i<k4->e_ parts i=de - edgF nd fl i 2):∀i:Nat,i<k4+1->e_ (parts++[px]) i=de - edgF nd fl i 2:=λi hi=>by
 by_cases e:i<k4
 ·rw [at_append_left _ _ _ om];exact hpp i e
 ·have e2:i=k4:=by omega
  subst e2
  have h1:=at_last parts px
  rw [hl] at h1
  rw [hs] at hx
  have h2:px=de - e_ fl (2*nd+3*(i:Int)+1+1):=hx (show 0<=2*nd+3*(i:Int)+1 by omega) (show 0<=2*nd+3*(i:Int)+1+1 by omega)
  have h3:((nd.toNat*2+(3*i+2):Nat):Int)=2*nd+3*(i:Int)+1+1:=by omega
  unfold edgF
  rw [h1,h2,h3]
set_option maxHeartbeats 4000000 in
theorem Solve_ok{κ:Ctx}{I:List Item}{nd:Int}{ve vw vb vk:Value}{es:List Pt}{ws bs cs:List Int}(hl:Sl κ I ve es)(hw:Sl κ I vw ws)(hb:Sl κ I vb bs)(hkc:Sl κ I vk cs)(hG:GrOk nd es)(hm:es.length<=2016)(hP:PlainP nd es ws bs cs){nu de:Int}(hN:0<=nu/\nu<=4096)(hD:1<=de/\de<=64):eu Tryz.prog κ 233 [.agg #[ve,vw,vb,vk,U64 (allB nd),U64 (0#64)],.agg #[e7 nu,e7 de]] I (λr J=>∃B a c parts,r = .agg #[U64 B,.slice a (parts:List Int).length c]/\SolveP nd nu de es B/\PartsP nd nu de es B parts/\J=vc 3 (.slice a parts.length c) parts::I):=by
 have hrng:=hG.rng
 have hwl:=hP.wl
 have hbl:=hP.bl
 have hcl:=hP.cl
 have hD4:0<=de/\de<=4096:=by omega
 refine Ce2 Tryz.func233 C C ?_
 refine Ai (Ge1 (A9 (cs:=[_,_,_,_,_,_]) C C C) λb1=>Ge1 (A9 (cs:=[_,_]) C C C) λb2=>Ge1 (Au ty208 C) λb3=>Af (Ai (Gf fld211_3 C (Gl ty22 ?_))))
 refine Gr (B0 (α:=Int) (xs:=cs) Ac C (Ba hkc)) (Gr (Rad C C) (Gf fld211_0 C (Gl ty46 ?_)))
 refine Gr (B0 (α:=Pt) (xs:=es) Bh C (Ba hl)) (Gr (Rad C C) ?_)
 rw [show (2:Int)+((cs.length:Nat):Int)+((es.length:Nat):Int)=2+nd+((es.length:Nat):Int) by omega]
 refine Gr (Bc (cells:=[_,_,_,_]) ty303 Tryz.underlying303 pl303 C C) (Ge1 (Au ty303 C) λb4=>Ge0 (Es4_4 ty303) ?_)
 refine G.fit (J:=vc 305 (.slice none 0 0) (([]:List Arc))::e8 b4 [e7 (2+nd+((es.length:Nat):Int)),e7 0,e7 1,.slice none 0 0] 303::e8 b3 [.int .u64 0,.slice none 0 0] 208::e8 b2 [e7 nu,e7 de] 40::e8 b1 [ve,vw,vb,vk,U64 (allB nd),U64 (0#64)] 211::I) (B2 (α:=Arc) _ _) ?_
 refine Af (Aq (S4 5 4 3 2 C C C C) (Ai (Gr (Ej C C) (Ga C (Af (Ap (Ai (Gf fld211_3 C (Gl ty22 ?_)))))))))
 refine Gr (B0 (α:=Int) (xs:=cs) Ac C (Ba hkc)) (Gm C (Af (A0 (B1 (σ:=Nat×(Option Addr)×Nat×(List Arc)) (λs=>([(2,.pointer (some ⟨b1,0,none⟩)),(3,.pointer (some ⟨b2,0,none⟩)),(4,.pointer (some ⟨b3,0,none⟩)),(5,.pointer (some ⟨b4,0,none⟩)),(6,.func (.func 281) #[] #[.pointer (some ⟨b4,0,none⟩)]),(33,vk),(34,e7 ((cs.length:Nat):Int)),(35,e7 ((s.1:Nat):Int))]:Env)) (λs=>e8 b4 [e7 (2+nd+((es.length:Nat):Int)),e7 0,e7 1,.slice s.2.1 s.2.2.2.length s.2.2.1] 303::vc 305 (.slice s.2.1 s.2.2.2.length s.2.2.1) (s.2.2.2)::e8 b3 [.int .u64 0,.slice none 0 0] 208::e8 b2 [e7 nu,e7 de] 40::e8 b1 [ve,vw,vb,vk,U64 (allB nd),U64 (0#64)] 211::I) (λs=>(s.1<=cs.length)/\(s.2.2.2=(List.range s.1).flatMap (nodeArcs nu))) (λs=>cs.length - s.1) (0,none,0,[]) (show ((0:Nat)<=cs.length)/\(([]:List Arc)=(List.range (0:Nat)).flatMap (nodeArcs nu)) from ⟨om,rfl⟩) (Aa C (Aa C (Aa C (Aa C (Aa C (Aa C (Aa C (Aa Ca Bp)))))))) (show Fit κ _ (e8 b4 [e7 (2+nd+((es.length:Nat):Int)),e7 0,e7 1,.slice none ([]).length 0] 303::vc 305 (.slice none ([]).length 0) (([]))::e8 b3 [.int .u64 0,.slice none 0 0] 208::e8 b2 [e7 nu,e7 de] 40::e8 b1 [ve,vw,vb,vk,U64 (allB nd),U64 (0#64)] 211::I) from B7) ?_))))
 rintro ⟨k,a,c,ar⟩ hp
 dsimp only at hp ⊢
 obtain ⟨hkk,har⟩:=hp
 have harl:ar.length=2*k:=by rw [har,flat_len _ 2 (λ_=>rfl)];omega
 refine Ai (Gr (A7 C C) (Af (Ap (A8 C (λc36=>?_) (λc36=>?_)))))
 ·refine Ay (Aj (Ap (A0 (Ai (Gm C (Gr (Az (α:=Int) (xs:=cs) Ac ef C C (Ba hkc) om oo) (Gr (Bo (xs:=cs) ef C (Ba hkc) om oo) ?_)))))))
  have hkn:k<nd.toNat:=by omega
  rw [hP.c1 (k:Int) om om]
  refine Ga C (Ga C (Af (Aq (S10 8 7 2 3 4 5 6 33 34 35 C C C C C C C C C C) (Ap (Bl mixed (Bt (e8 b4 [e7 (2+nd+((es.length:Nat):Int)),e7 0,e7 1,.slice a ar.length c] 303::vc 305 (.slice a ar.length c) (ar)::e8 b3 [.int .u64 0,.slice none 0 0] 208::e8 b2 [e7 nu,e7 de] 40::e8 b1 [ve,vw,vb,vk,U64 (allB nd),U64 (0#64)] 211::I) 9 (Dr 0 C (Ad C) (Dr 2 C (Ab fld211_4 C) (Dr 3 C (As ty175) ?_)))))))))
  refine Dr 5 C (Ab fld211_5 C) (Dr 6 C (As ty175) ?_)
  refine Ds1 1 (Se C (Ah call237 C C (Bit_ok (k:Int))) ?_)
  rintro _ _ ⟨_,_,⟨rfl,rfl⟩,rfl,rfl⟩
  refine ⟨A3,?_⟩
  refine Dr 4 C (Da (a:=bitB (k:Int)) (b:=allB nd) C C) (Dr 7 C (Er (a:=(bitB (k:Int)) &&& (allB nd)) (b:=0#64) C C) (Dr 8 C (Runs.neB (a:=((bitB (k:Int)) &&& (allB nd)) &&& ~~~(0#64)) (b:=0#64) C C) (Dz (Aj (Aq (S11 48 8 7 2 3 4 5 6 33 34 35 C C C C C C C C C C C) (A8 C (λc48=>?_) (λc48=>?_)))))))
  ·refine Ap (Bl mixed (Bt (e8 b3 [.int .u64 0,.slice none 0 0] 208::e8 b2 [e7 nu,e7 de] 40::e8 b1 [ve,vw,vb,vk,U64 (allB nd),U64 (0#64)] 211::I) 12 (Dr 0 C (Ad C) (Dr 1 C (Ad C) (Dr 2 C (Rad C C) (Dr 3 C (Ab fld211_2 C) (Dr 4 C (As ty22) ?_)))))))
   refine Dr 5 C (Ad C) (Dr 6 C (Az (α:=Int) (xs:=bs) Ac ef C C (Ba hb) om oo) (Dr 7 C (Bo (xs:=bs) ef C (Ba hb) om oo) ?_))
   rw [hP.b0 (k:Int) om om]
   refine Dr 8 C (Ab fld40_1 C) (Dr 9 C (As ef) ?_)
   refine Dr 10 C (Em C C (by unfold InR;omega)) ?_
   rw [Int.zero_mul]
   refine Ds1 11 (Sc2 C (Cw call281 C C C (Db (J:=e8 b4 [e7 (2+nd+((es.length:Nat):Int)),e7 0,e7 1,.slice a ar.length c] 303::vc 305 (.slice a ar.length c) (ar)::e8 b3 [.int .u64 0,.slice none 0 0] 208::e8 b2 [e7 nu,e7 de] 40::e8 b1 [ve,vw,vb,vk,U64 (allB nd),U64 (0#64)] 211::I) B7 (Arc_ok 0 (2+(k:Int)) 0 olp))) λad5 cp6=>?_)
   refine Dz (Aj (Aq (S10 8 7 2 3 4 5 6 33 34 35 C C C C C C C C C C) (Ax (Gm C (Gm C (Gr (Rad C C) (Gm C (Gf fld40_0 C (Gl ef ?_)))))))))
   refine Gr (Em C C (by unfold InR;omega)) ?_
   rw [Int.one_mul]
   refine Gc2 (Cw call281 C C C (Db (J:=e8 b4 [e7 (2+nd+((es.length:Nat):Int)),e7 0,e7 1,.slice ad5 (ar++[(⟨0,2+(k:Int),0⟩:Arc)]).length cp6] 303::vc 305 (.slice ad5 (ar++[(⟨0,2+(k:Int),0⟩:Arc)]).length cp6) (ar++[(⟨0,2+(k:Int),0⟩:Arc)])::e8 b3 [.int .u64 0,.slice none 0 0] 208::e8 b2 [e7 nu,e7 de] 40::e8 b1 [ve,vw,vb,vk,U64 (allB nd),U64 (0#64)] 211::I) B7 (Arc_ok (2+(k:Int)) 1 nu olp))) λad7 cp8=>?_
   exact Bi (Ak (Aj (Aq (S8 2 3 4 5 6 33 34 35 C C C C C C C C) (Ax (Gr (Rad C C) (Gm C (Bi (B5 ((k+1),(ad7),(cp8),((ar++[(⟨0,2+(k:Int),0⟩:Arc)])++[(⟨2+(k:Int),1,nu⟩:Arc)])) (by dsimp only;exact ⟨om,(by rw [flat_succ,←har,List.append_assoc];rfl)⟩)))))))))
  ·exact absurd (bit_all (u:=(k:Int)) om om om) c48
 ·refine Bv (Al (Al (A5 (Aj (Ai (Gf fld211_0 C (Gl ty46 ?_)))))))
  refine Gr (B0 (α:=Pt) (xs:=es) Bh C (Ba hl)) (Ge2 (Cp (α:=Pt) (n:=es.length) Ch ty64 C C C om om dc C) λad9 cp10=>?_)
  refine Ga C (Af (Aq (S6 9 2 3 4 5 6 C C C C C C) (Ap (Ai (Gf fld211_0 C (Gl ty46 ?_))))))
  refine Gr (B0 (α:=Pt) (xs:=es) Bh C (Ba hl)) (Gm C (Af (A0 (B1 (σ:=Nat×(Option Addr)×Nat×(List Arc)×(List Pt)) (λs=>([(2,.pointer (some ⟨b1,0,none⟩)),(3,.pointer (some ⟨b2,0,none⟩)),(4,.pointer (some ⟨b3,0,none⟩)),(5,.pointer (some ⟨b4,0,none⟩)),(6,.func (.func 281) #[] #[.pointer (some ⟨b4,0,none⟩)]),(9,.slice ad9 (replicate es.length (default:Pt)).length cp10),(75,ve),(76,e7 ((es.length:Nat):Int)),(77,e7 ((s.1:Nat):Int))]:Env)) (λs=>e8 b4 [e7 (2+nd+((es.length:Nat):Int)),e7 0,e7 1,.slice s.2.1 s.2.2.2.1.length s.2.2.1] 303::vc 305 (.slice s.2.1 s.2.2.2.1.length s.2.2.1) (s.2.2.2.1)::vc 64 (.slice ad9 (replicate es.length (default:Pt)).length cp10) (s.2.2.2.2)::e8 b3 [.int .u64 0,.slice none 0 0] 208::e8 b2 [e7 nu,e7 de] 40::e8 b1 [ve,vw,vb,vk,U64 (allB nd),U64 (0#64)] 211::I) (λs=>(s.1<=es.length)/\(s.2.2.2.1=ar++(List.range s.1).flatMap (edgeArcs nd de es))/\(s.2.2.2.2.length=es.length)/\(∀i:Nat,i<s.1->e_ s.2.2.2.2 i=stepP (2*nd+3*(i:Int)+1) 2)) (λs=>es.length - s.1) (0,a,c,ar,replicate es.length (default:Pt)) (show ((0:Nat)<=es.length)/\((ar:List Arc)=ar++(List.range (0:Nat)).flatMap (edgeArcs nd de es))/\((replicate es.length (default:Pt):List Pt).length=es.length)/\(∀i:Nat,i<(0:Nat)->e_ (replicate es.length (default:Pt):List Pt) (i:Int)=stepP (2*nd+3*(i:Int)+1) 2) from ⟨om,(by simp),List.length_replicate,(λi h=>by omega)⟩) (Aa C (Aa C (Aa C (Aa C (Aa C (Aa C (Aa C (Aa C (Aa Ca Bp))))))))) (show Fit κ _ (e8 b4 [e7 (2+nd+((es.length:Nat):Int)),e7 0,e7 1,.slice a (ar).length c] 303::vc 305 (.slice a (ar).length c) ((ar))::vc 64 (.slice ad9 (replicate es.length (default:Pt)).length cp10) ((replicate es.length (default:Pt)))::e8 b3 [.int .u64 0,.slice none 0 0] 208::e8 b2 [e7 nu,e7 de] 40::e8 b1 [ve,vw,vb,vk,U64 (allB nd),U64 (0#64)] 211::I) from B7) ?_))))
  rintro ⟨k2,a2,c2,ar2,fs⟩ hp
  dsimp only at hp ⊢
  obtain ⟨hk2,har2,hfl,hfs⟩:=hp
  have har2l:ar2.length=2*k+3*k2:=by rw [har2,List.length_append,harl,flat_len _ 3 (λ_=>rfl)];omega
  refine Ai (Gr (A7 C C) (Af (Ap (A8 C (λc78=>?_) (λc78=>?_)))))
  ·refine Ay (Aj (Ap (A0 (Ai (Gm C (Gr (Az (α:=Pt) (xs:=es) Bh ty135 C C (Ba hl) om oo) (Gr (Bz (α:=Pt) (xs:=es) ty135 C (Ba hl) om oo) ?_)))))))
   have hed:=hG.edge (e_ es k2) (Bf om om)
   refine Ge1 (Au ty135 C) λb11=>Ga C (Ge0 (Bq ty135) ?_)
   refine Af (Aq (S11 10 11 2 3 4 5 6 9 75 76 77 C C C C C C C C C C C) (Ai (Gf fld211_3 C (Gl ty22 ?_))))
   refine Gr (B0 (α:=Int) (xs:=cs) Ac C (Ba hkc)) (Gr (Rad C C) (Gm C (Gr (Rad C C) ?_)))
   rw [show (2:Int)+((cs.length:Nat):Int)+(k2:Int)=2+nd+(k2:Int) by omega]
   refine Ga C (Af (Aq (S12 12 10 11 2 3 4 5 6 9 75 76 77 C C C C C C C C C C C C) (Ap (Bl mixed (Bt (e8 b11 [e7 ((e_ es k2).u),e7 ((e_ es k2).v)] 135::e8 b4 [e7 (2+nd+((es.length:Nat):Int)),e7 0,e7 1,.slice a2 ar2.length c2] 303::vc 305 (.slice a2 ar2.length c2) (ar2)::vc 64 (.slice ad9 (replicate es.length (default:Pt)).length cp10) (fs)::e8 b3 [.int .u64 0,.slice none 0 0] 208::e8 b2 [e7 nu,e7 de] 40::e8 b1 [ve,vw,vb,vk,U64 (allB nd),U64 (0#64)] 211::I) 9 (Dr 0 C (Ab fld211_1 C) (Dr 1 C (As ty22) ?_)))))))
   refine Dr 2 C (Ad C) (Dr 3 C (Az (α:=Int) (xs:=ws) Ac ef C C (Ba hw) om oo) (Dr 4 C (Bo (xs:=ws) ef C (Ba hw) om oo) ?_))
   rw [hP.w1 k2 om]
   refine Dr 5 C (Ab fld40_1 C) (Dr 6 C (As ef) ?_)
   refine Dr 7 C (Em C C (by unfold InR;omega)) ?_
   rw [Int.one_mul]
   refine Dr 8 C (Bb C) (Dz (Aj (Aq (S13 13 12 10 11 2 3 4 5 6 9 75 76 77 C C C C C C C C C C C C C) (Ai (Gm C (Gm C (Gm C (Gc2 (Cw call281 C C C (Db (J:=e8 b4 [e7 (2+nd+((es.length:Nat):Int)),e7 0,e7 1,.slice a2 ar2.length c2] 303::vc 305 (.slice a2 ar2.length c2) (ar2)::e8 b11 [e7 ((e_ es k2).u),e7 ((e_ es k2).v)] 135::vc 64 (.slice ad9 (replicate es.length (default:Pt)).length cp10) (fs)::e8 b3 [.int .u64 0,.slice none 0 0] 208::e8 b2 [e7 nu,e7 de] 40::e8 b1 [ve,vw,vb,vk,U64 (allB nd),U64 (0#64)] 211::I) B7 (Arc_ok 0 (2+nd+(k2:Int)) de olp))) λad12 cp13=>?_))))))))
   refine Af (Aq (S13 13 12 10 11 2 3 4 5 6 9 75 76 77 C C C C C C C C C C C C C) (Ai (Gm C (Gm C (Gr (Runs.buildArr (cells:=[_,_]) ty64 B3 ef C C) (Gr (Az (α:=Pt) (xs:=fs) Ch ty64 C C Bk om oo) (Ge0 (Cx (α:=Pt) (xs:=fs) (e:=64) (new:=⟨-1, -1⟩) ty64 C C C om oo am) ?_)))))))
   refine Af (Aq (S13 13 12 10 11 2 3 4 5 6 9 75 76 77 C C C C C C C C C C C C C) (Ai (Gf fld135_0 C (Gl ef ?_))))
   refine Gf fld135_1 C (Gl ef ?_)
   refine Gr (Runs.buildArr (cells:=[_,_]) ty64 B3 ef C C) (Gm C (Af (Aq (S14 109 108 13 12 10 2 3 4 5 6 9 75 76 77 C C C C C C C C C C C C C C) (A0 (B1 (σ:=Nat×(Option Addr)×Nat×(List Arc)×(List Pt)) (λs=>([(2,.pointer (some ⟨b1,0,none⟩)),(3,.pointer (some ⟨b2,0,none⟩)),(4,.pointer (some ⟨b3,0,none⟩)),(5,.pointer (some ⟨b4,0,none⟩)),(6,.func (.func 281) #[] #[.pointer (some ⟨b4,0,none⟩)]),(9,.slice ad9 (replicate es.length (default:Pt)).length cp10),(10,e7 ((k2:Int))),(12,e7 (2+nd+(k2:Int))),(13,e7 de),(75,ve),(76,e7 ((es.length:Nat):Int)),(77,e7 ((k2:Int))),(108,.agg #[e7 ((e_ es k2).u),e7 ((e_ es k2).v)]),(109,e7 ((s.1:Nat):Int))]:Env)) (λs=>e8 b4 [e7 (2+nd+((es.length:Nat):Int)),e7 0,e7 1,.slice s.2.1 s.2.2.2.1.length s.2.2.1] 303::vc 305 (.slice s.2.1 s.2.2.2.1.length s.2.2.1) (s.2.2.2.1)::e8 b11 [e7 ((e_ es k2).u),e7 ((e_ es k2).v)] 135::vc 64 (.slice ad9 (replicate es.length (default:Pt)).length cp10) (s.2.2.2.2)::e8 b3 [.int .u64 0,.slice none 0 0] 208::e8 b2 [e7 nu,e7 de] 40::e8 b1 [ve,vw,vb,vk,U64 (allB nd),U64 (0#64)] 211::I) (λs=>(s.1<=2)/\(s.2.2.2.1=ar2++(edgeArcs nd de es k2).take (1+s.1))/\(s.2.2.2.2=fs.set k2 (stepP (2*nd+3*(k2:Int)+1) s.1))) (λs=>2 - s.1) (0,ad12,cp13,ar2++[(⟨0,2+nd+(k2:Int),de⟩:Arc)],List.set fs ((k2:Int)).toNat (⟨-1, -1⟩)) (show ((0:Nat)<=2)/\((ar2++[(⟨0,2+nd+(k2:Int),de⟩:Arc)]:List Arc)=ar2++(edgeArcs nd de es k2).take (1+(0:Nat)))/\((List.set fs ((k2:Int)).toNat (⟨-1, -1⟩):List Pt)=fs.set k2 (stepP (2*nd+3*(k2:Int)+1) (0:Nat))) from ⟨om,rfl,(by rw [Int.toNat_natCast];rfl)⟩) (Aa C (Aa C (Aa C (Aa C (Aa C (Aa C (Aa C (Aa C (Aa C (Aa C (Aa C (Aa C (Aa C (Aa Ca Bp)))))))))))))) (show Fit κ _ (e8 b4 [e7 (2+nd+((es.length:Nat):Int)),e7 0,e7 1,.slice ad12 (ar2++[(⟨0,2+nd+(k2:Int),de⟩:Arc)]).length cp13] 303::vc 305 (.slice ad12 (ar2++[(⟨0,2+nd+(k2:Int),de⟩:Arc)]).length cp13) ((ar2++[(⟨0,2+nd+(k2:Int),de⟩:Arc)]))::e8 b11 [e7 ((e_ es k2).u),e7 ((e_ es k2).v)] 135::vc 64 (.slice ad9 (replicate es.length (default:Pt)).length cp10) ((List.set fs ((k2:Int)).toNat (⟨-1, -1⟩)))::e8 b3 [.int .u64 0,.slice none 0 0] 208::e8 b2 [e7 nu,e7 de] 40::e8 b1 [ve,vw,vb,vk,U64 (allB nd),U64 (0#64)] 211::I) from B7) ?_)))))
   rintro ⟨j,a3,c3,ar3,fs3⟩ hp
   dsimp only at hp ⊢
   obtain ⟨hj,har3,hfs3⟩:=hp
   refine W.pull (p:=0<fs3.length->ad9≠none) (vc.isSome mm) λhsf=>?_
   have har3l:ar3.length=2*k+3*k2+1+j:=by rw [har3,List.length_append,List.length_take,har2l];show 2*k+3*k2+min (1+j) 3=_;omega
   have hf3l:fs3.length=es.length:=by rw [hfs3,List.length_set];exact hfl
   refine Ai (Gr (A7 C C) (Af (Aq (S15 110 2 3 4 5 6 9 10 12 13 75 76 77 108 109 C C C C C C C C C C C C C C C) (Ap (A8 C (λc110=>?_) (λc110=>?_))))))
   ·refine Ay (Aj (Aq (S14 2 3 4 5 6 9 10 12 13 75 76 77 108 109 C C C C C C C C C C C C C C) (Ap (A0 (Ai (Gm C (Gr (Runs.index2 (ix2a _ _) (ix2b _ _) C C om) (Ga C (Ga C (Af (Aq (S16 15 14 2 3 4 5 6 9 10 12 13 75 76 77 108 109 C C C C C C C C C C C C C C C C) (Ap (Bl mixed (Bt (e8 b4 [e7 (2+nd+((es.length:Nat):Int)),e7 0,e7 1,.slice a3 ar3.length c3] 303::vc 305 (.slice a3 ar3.length c3) (ar3)::e8 b11 [e7 ((e_ es k2).u),e7 ((e_ es k2).v)] 135::vc 64 (.slice ad9 (replicate es.length (default:Pt)).length cp10) (fs3)::e8 b3 [.int .u64 0,.slice none 0 0] 208::e8 b2 [e7 nu,e7 de] 40::e8 b1 [ve,vw,vb,vk,U64 (allB nd),U64 (0#64)] 211::I) 6 (Dr 0 C (Ad C) (Dr 2 C (Ab fld211_5 C) (Dr 3 C (As ty175) ?_)))))))))))))))))
    refine Ds1 1 (Se C (Ah call237 C C (Bit_ok (if (j:Int)=0 then (e_ es k2).u else (e_ es k2).v))) ?_)
    rintro _ _ ⟨_,_,⟨rfl,rfl⟩,rfl,rfl⟩
    refine ⟨A3,?_⟩
    refine Dr 4 C (Da (a:=bitB (if (j:Int)=0 then (e_ es k2).u else (e_ es k2).v)) (b:=0#64) C C) (Dr 5 C (Runs.eqB (a:=(bitB (if (j:Int)=0 then (e_ es k2).u else (e_ es k2).v)) &&& (0#64)) (b:=0#64) C C) (Dz (Aj (Aq (S17 118 15 14 2 3 4 5 6 9 10 12 13 75 76 77 108 109 C C C C C C C C C C C C C C C C C) (A8 C (λc118=>?_) (λc118=>?_))))))
    ·refine Bl mixed (Bt (e8 b11 [e7 ((e_ es k2).u),e7 ((e_ es k2).v)] 135::e8 b3 [.int .u64 0,.slice none 0 0] 208::e8 b2 [e7 nu,e7 de] 40::e8 b1 [ve,vw,vb,vk,U64 (allB nd),U64 (0#64)] 211::I) 12 (Dr 0 C (Ad C) (Dr 1 C (Ad C) (Dr 2 C (Ad C) (Dr 3 C (Ad C) (Dr 4 C (Ad C) (Dr 5 C (Ad C) (Dr 6 C (Rad C C) (Dr 7 C (Ad C) (Dr 9 C (Runs.idxsV Pt Ch ty64 C C (hsf om) om (by simp only [List.length_replicate];omega)) (Ds1 8 (Sc2 C (Cw call281 C C C (Db (J:=e8 b4 [e7 (2+nd+((es.length:Nat):Int)),e7 0,e7 1,.slice a3 ar3.length c3] 303::vc 305 (.slice a3 ar3.length c3) (ar3)::e8 b11 [e7 ((e_ es k2).u),e7 ((e_ es k2).v)] 135::vc 64 (.slice ad9 (replicate es.length (default:Pt)).length cp10) (fs3)::e8 b3 [.int .u64 0,.slice none 0 0] 208::e8 b2 [e7 nu,e7 de] 40::e8 b1 [ve,vw,vb,vk,U64 (allB nd),U64 (0#64)] 211::I) B7 (Arc_ok (2+nd+(k2:Int)) (2+(if (j:Int)=0 then (e_ es k2).u else (e_ es k2).v)) de olp))) λad14 cp15=>?_))))))))))))
     refine Dr 10 C (Runs.idxElF B3 ef C C (hsf om) om om) (Ds1 11 (Se0 C (Eff.setP2 (xs:=fs3) (i:=(k2:Int)) (j:=(j:Int)) (n:=((ar3.length:Nat):Int)) (e:=64) ef C C om om om am) ?_))
     exact Dz (Ak (Aj (Aq (S14 2 3 4 5 6 9 10 12 13 75 76 77 108 109 C C C C C C C C C C C C C C) (Ax (Gr (Rad C C) (Gm C (Bi (B5 ((j+1),(ad14),(cp15),(ar3++[(⟨2+nd+(k2:Int),2+(if (j:Int)=0 then (e_ es k2).u else (e_ es k2).v),de⟩:Arc)]),(List.set fs3 ((k2:Int)).toNat (setP2 (e_ fs3 k2) (j:Int) ((ar3.length:Nat):Int)))) (by dsimp only;exact ⟨om,(by rcases (show j=0\/j=1 by omega) with e|e<;>subst e<;>rw [har3,List.append_assoc]<;>simp [edgeArcs]),(step_first hfs3 om om om)⟩)))))))))
    ·exact absurd BitVec.and_zero c118
   ·exact Bv (Al (Al (A5 (Ak (Aj (Aq (S9 2 3 4 5 6 9 75 76 77 C C C C C C C C C) (Ax (Gr (Rad C C) (Gm C (Bi (B5 ((k2+1),(a3),(c3),(ar3),(fs3)) (by dsimp only;exact ⟨om,(by rw [har3,har2,flat_succ,List.append_assoc,List.take_of_length_le (show (edgeArcs nd de es k2).length<=1+j by show 3<=1+j;omega)]),hf3l,(first_next hfs3 om om hfs)⟩))))))))))))
  ·refine Bv (Al (Al (A5 (Aj (Ai (Gl4 ty303 ?_))))))
   have hall:ar2=denseArcs nd nu de es:=by rw [har2,har,show k=nd.toNat by omega,show k2=es.length by omega];rfl
   rw [hall]
   have hdl:=denseArcs_len nd nu de es
   refine G.e (Ah call282 C C (Both_ok (n:=denseNet nd nu de es) Bk (denseNet_ok hG hm om om))) ?_
   rintro _ _ ⟨_,_,⟨ad16,cp17,fl,ad18,cp19,side,val,rfl,hB,rfl⟩,rfl,rfl⟩
   have hsl:((side.length:Nat):Int)=2+nd+((es.length:Nat):Int):=hB.len
   have hfl2:fl.length=nd.toNat*2+es.length*3:=hB.flow.len.trans hdl
   refine Gm C (Gr (Aw C C) (Gr (Aw C C) (Gr (Aw C C) (Ga C (Ga C (Ga C (Af (Aq (S6 18 16 2 3 4 9 C C C C C C) (Ai (Gf fld211_5 C (Gl ty175 ?_)))))))))))
   refine Gr (Bc (cells:=[_,_]) ty208 Tryz.underlying208 pl208 C C) (Ge1 (Au ty208 C) λb20=>Ge0 (Bq ty208) ?_)
   refine Af (Ap (Ai (Gf fld211_3 C (Gl ty22 ?_))))
   refine Gr (B0 (α:=Int) (xs:=cs) Ac C (Ba hkc)) (Gm C (Af (Aq (S9 144 143 19 18 16 2 3 4 9 C C C C C C C C C) (A0 (B1 (σ:=Nat×(BitVec 64)) (λs=>([(2,.pointer (some ⟨b1,0,none⟩)),(3,.pointer (some ⟨b2,0,none⟩)),(4,.pointer (some ⟨b3,0,none⟩)),(9,.slice ad9 (replicate es.length (default:Pt)).length cp10),(16,.slice ad16 fl.length cp17),(18,.slice ad18 side.length cp19),(19,.pointer (some ⟨b20,0,none⟩)),(143,e7 ((cs.length:Nat):Int)),(144,e7 ((s.1:Nat):Int))]:Env)) (λs=>e8 b20 [U64 (s.2),.slice none 0 0] 208::vc 4 (.slice ad18 side.length cp19) (side)::vc 3 (.slice ad16 fl.length cp17) (fl)::e8 b4 [e7 (2+nd+((es.length:Nat):Int)),e7 0,e7 1,.slice a2 (denseArcs nd nu de es).length c2] 303::vc 305 (.slice a2 (denseArcs nd nu de es).length c2) ((denseArcs nd nu de es))::vc 64 (.slice ad9 (replicate es.length (default:Pt)).length cp10) (fs)::e8 b3 [.int .u64 0,.slice none 0 0] 208::e8 b2 [e7 nu,e7 de] 40::e8 b1 [ve,vw,vb,vk,U64 (allB nd),U64 (0#64)] 211::I) (λs=>(s.1<=cs.length)/\(∀v:Int,v∈eo s.2↔(0<=v/\v<((s.1:Nat):Int))/\e_ side (2+v)=true)) (λs=>cs.length - s.1) (0,0#64) (show ((0:Nat)<=cs.length)/\(∀v:Int,v∈eo (0#64:BitVec 64)↔(0<=v/\v<(((0:Nat):Nat):Int))/\e_ side (2+v)=true) from ⟨om,(λv=>by rw [Df];constructor;(· intro h;cases h);(· rintro ⟨h,_⟩;omega))⟩) (Aa C (Aa C (Aa C (Aa C (Aa C (Aa C (Aa C (Aa C (Aa Ca Bp))))))))) (show Fit κ _ (e8 b20 [U64 ((0#64)),.slice none 0 0] 208::vc 4 (.slice ad18 side.length cp19) (side)::vc 3 (.slice ad16 fl.length cp17) (fl)::e8 b4 [e7 (2+nd+((es.length:Nat):Int)),e7 0,e7 1,.slice a2 (denseArcs nd nu de es).length c2] 303::vc 305 (.slice a2 (denseArcs nd nu de es).length c2) ((denseArcs nd nu de es))::vc 64 (.slice ad9 (replicate es.length (default:Pt)).length cp10) (fs)::e8 b3 [.int .u64 0,.slice none 0 0] 208::e8 b2 [e7 nu,e7 de] 40::e8 b1 [ve,vw,vb,vk,U64 (allB nd),U64 (0#64)] 211::I) from A1) ?_)))))
   rintro ⟨k3,B⟩ hp
   dsimp only at hp ⊢
   obtain ⟨hk3,hB6⟩:=hp
   refine Ai (Gr (A7 C C) (Af (Ap (A8 C (λc145=>?_) (λc145=>?_)))))
   ·refine Ay (Aj (Ap (A0 (Ai (Gm C (Ga C (Af (Ap (Bl mixed (Bt (e8 b20 [U64 B,.slice none 0 0] 208::vc 4 (.slice ad18 side.length cp19) (side)::vc 3 (.slice ad16 fl.length cp17) (fl)::e8 b4 [e7 (2+nd+((es.length:Nat):Int)),e7 0,e7 1,.slice a2 (denseArcs nd nu de es).length c2] 303::vc 305 (.slice a2 (denseArcs nd nu de es).length c2) ((denseArcs nd nu de es))::vc 64 (.slice ad9 (replicate es.length (default:Pt)).length cp10) (fs)::e8 b3 [.int .u64 0,.slice none 0 0] 208::e8 b2 [e7 nu,e7 de] 40::e8 b1 [ve,vw,vb,vk,U64 (allB nd),U64 (0#64)] 211::I) 16 (Dr 0 C (Ad C) (Dr 2 C (Ab fld211_4 C) (Dr 3 C (As ty175) ?_)))))))))))))
    refine Dr 5 C (Ab fld211_5 C) (Dr 6 C (As ty175) ?_)
    refine Ds1 1 (Se C (Ah call237 C C (Bit_ok (k3:Int))) ?_)
    rintro _ _ ⟨_,_,⟨rfl,rfl⟩,rfl,rfl⟩
    refine ⟨A3,?_⟩
    refine Dr 4 C (Da (a:=bitB (k3:Int)) (b:=allB nd) C C) (Dr 7 C (Er (a:=(bitB (k3:Int)) &&& (allB nd)) (b:=0#64) C C) (Dr 8 C (Runs.neB (a:=((bitB (k3:Int)) &&& (allB nd)) &&& ~~~(0#64)) (b:=0#64) C C) (Dr 9 C (Ad C) (Cs (d:=156) C (λg156=>?_) (λg156=>?_)))))
    ·refine Dro 10 C (Ad C) (Dro 11 C (Ad C) (Dro 12 C (Rad C C) (Dro 13 C (Az (α:=Bool) (xs:=side) Co ty4 C C Bk om oo) (Dro 14 C (Runs.getB (xs:=side) ty4 C Bk om oo) (Dr 15 C (Ar C C) (Dz (Aj (Aq (S11 162 20 2 3 4 9 16 18 19 143 144 C C C C C C C C C C C) (W.cond C (λc162=>?_) (λc162=>?_))))))))))
     ·refine Bl mixed (Bt (e8 b20 [U64 B,.slice none 0 0] 208::vc 4 (.slice ad18 side.length cp19) (side)::vc 3 (.slice ad16 fl.length cp17) (fl)::e8 b4 [e7 (2+nd+((es.length:Nat):Int)),e7 0,e7 1,.slice a2 (denseArcs nd nu de es).length c2] 303::vc 305 (.slice a2 (denseArcs nd nu de es).length c2) ((denseArcs nd nu de es))::vc 64 (.slice ad9 (replicate es.length (default:Pt)).length cp10) (fs)::e8 b3 [.int .u64 0,.slice none 0 0] 208::e8 b2 [e7 nu,e7 de] 40::e8 b1 [ve,vw,vb,vk,U64 (allB nd),U64 (0#64)] 211::I) 6 (Dr 0 C (Ab fld208_0 C) (Dr 1 C (As ty175) ?_)))
      refine Dr 2 C (Ad C) (Ds1 3 (Se C (Ah call237 C C (Bit_ok (k3:Int))) ?_))
      rintro _ _ ⟨_,_,⟨rfl,rfl⟩,rfl,rfl⟩
      refine ⟨A3,?_⟩
      refine Dr 4 C (E8 (a:=B) (b:=bitB (k3:Int)) C C) (Dr 5 C (Ab fld208_0 C) (C0 kr ?_))
      refine Ae 6 C (Eq ty175) ?_
      rintro _ _ ⟨rfl,rfl⟩
      refine C1 kr ?_
      exact Ak (Aj (Aq (S9 2 3 4 9 16 18 19 143 144 C C C C C C C C C) (Ax (Gr (Rad C C) (Gm C (Bi (B5 ((k3+1),(B ||| (bitB (k3:Int)))) (by dsimp only;exact ⟨om,(by first|exact or_yes (p:=λv=>e_ side (2+v)=true) om hB6 c162|exact or_no (p:=λv=>e_ side (2+v)=true) hB6 (by rw [c162];simp))⟩))))))))
     ·exact Ay (Ak (Aj (Ax (Gr (Rad C C) (Gm C (Bi (B5 ((k3+1),(B)) (by dsimp only;exact ⟨om,(by first|exact or_yes (p:=λv=>e_ side (2+v)=true) om hB6 c162|exact or_no (p:=λv=>e_ side (2+v)=true) hB6 (by rw [c162];simp))⟩))))))))
    ·exact absurd (bit_all (u:=(k3:Int)) om om om) g156
   ·refine Bv (Al (Al (A5 (Aj (Ap (Ai (Gf fld211_0 C (Gl ty46 ?_))))))))
    refine Gr (B0 (α:=Pt) (xs:=es) Bh C (Ba hl)) (Gm C (Af (Aq (S8 173 172 2 3 4 9 16 19 C C C C C C C C) (A0 (B1 (σ:=Nat×(Option Addr)×Nat×(List Int)) (λs=>([(2,.pointer (some ⟨b1,0,none⟩)),(3,.pointer (some ⟨b2,0,none⟩)),(4,.pointer (some ⟨b3,0,none⟩)),(9,.slice ad9 (replicate es.length (default:Pt)).length cp10),(16,.slice ad16 fl.length cp17),(19,.pointer (some ⟨b20,0,none⟩)),(172,e7 ((es.length:Nat):Int)),(173,e7 ((s.1:Nat):Int))]:Env)) (λs=>vc 3 (.slice s.2.1 s.2.2.2.length s.2.2.1) (s.2.2.2)::e8 b20 [U64 B,.slice s.2.1 s.2.2.2.length s.2.2.1] 208::vc 4 (.slice ad18 side.length cp19) (side)::vc 3 (.slice ad16 fl.length cp17) (fl)::e8 b4 [e7 (2+nd+((es.length:Nat):Int)),e7 0,e7 1,.slice a2 (denseArcs nd nu de es).length c2] 303::vc 305 (.slice a2 (denseArcs nd nu de es).length c2) ((denseArcs nd nu de es))::vc 64 (.slice ad9 (replicate es.length (default:Pt)).length cp10) (fs)::e8 b3 [.int .u64 0,.slice none 0 0] 208::e8 b2 [e7 nu,e7 de] 40::e8 b1 [ve,vw,vb,vk,U64 (allB nd),U64 (0#64)] 211::I) (λs=>(s.1<=es.length)/\(s.2.2.2.length=s.1)/\(∀i:Nat,i<s.1->e_ s.2.2.2 i=de - edgF nd fl i 2)) (λs=>es.length - s.1) (0,none,0,[]) (show ((0:Nat)<=es.length)/\(([]:List Int).length=(0:Nat))/\(∀i:Nat,i<(0:Nat)->e_ ([]:List Int) i=de - edgF nd fl i 2) from ⟨om,rfl,(λi h=>by omega)⟩) (Aa C (Aa C (Aa C (Aa C (Aa C (Aa C (Aa C (Aa Ca Bp)))))))) (show Fit κ _ (vc 3 (.slice none ([]).length 0) (([]))::e8 b20 [U64 B,.slice none ([]).length 0] 208::vc 4 (.slice ad18 side.length cp19) (side)::vc 3 (.slice ad16 fl.length cp17) (fl)::e8 b4 [e7 (2+nd+((es.length:Nat):Int)),e7 0,e7 1,.slice a2 (denseArcs nd nu de es).length c2] 303::vc 305 (.slice a2 (denseArcs nd nu de es).length c2) ((denseArcs nd nu de es))::vc 64 (.slice ad9 (replicate es.length (default:Pt)).length cp10) (fs)::e8 b3 [.int .u64 0,.slice none 0 0] 208::e8 b2 [e7 nu,e7 de] 40::e8 b1 [ve,vw,vb,vk,U64 (allB nd),U64 (0#64)] 211::I) from (B2 _ _)) ?_)))))
    rintro ⟨k4,pa,pc,parts⟩ hp
    dsimp only at hp ⊢
    obtain ⟨hk4,hpl,hpp⟩:=hp
    have hfu:k4<es.length->(e_ fs k4).u<fl.length/\(e_ fs k4).v<fl.length:=λh=>by rw [hfs k4 om];exact ⟨by show 2*nd+3*(k4:Int)+1<_;omega,by show 2*nd+3*(k4:Int)+1+1<_;omega⟩
    refine Ai (Gr (A7 C C) (Af (Ap (A8 C (λc174=>?_) (λc174=>?_)))))
    ·refine Ay (Aj (Ap (A0 (Ai (Gm C (Ga C (Af (Bl mixed (Bt (e8 b20 [U64 B,.slice pa parts.length pc] 208::vc 4 (.slice ad18 side.length cp19) (side)::vc 3 (.slice ad16 fl.length cp17) (fl)::e8 b4 [e7 (2+nd+((es.length:Nat):Int)),e7 0,e7 1,.slice a2 (denseArcs nd nu de es).length c2] 303::vc 305 (.slice a2 (denseArcs nd nu de es).length c2) ((denseArcs nd nu de es))::vc 64 (.slice ad9 (replicate es.length (default:Pt)).length cp10) (fs)::e8 b3 [.int .u64 0,.slice none 0 0] 208::e8 b2 [e7 nu,e7 de] 40::e8 b1 [ve,vw,vb,vk,U64 (allB nd),U64 (0#64)] 211::I) 21 (Dr 0 C (Ab fld208_1 C) (Dr 1 C (As ty22) ?_)))))))))))
     refine Dr 2 C (Bd (vs:=[_,_,_,_,_,_]) ty211) ?_
     refine Dr 3 C (Ad C) (Dr 4 C (Ad C) (Dr 5 C (Ad C) (Dr 6 C (Az (α:=Pt) (xs:=fs) Ch ty64 C C Bk om oo) (Dr 7 C (Bz (α:=Pt) (xs:=fs) ty64 C Bk om oo) ?_))))
     have hfu2:=hfu om
     refine Dr 8 C (Ad C) (Dr 9 C (Ab fld211_1 C) (Dr 10 C (As ty22) ?_))
     refine Dr 11 C (Ad C) (Dr 12 C (Az (α:=Int) (xs:=ws) Ac ef C C (Ba hw) om oo) (Dr 13 C (Bo (xs:=ws) ef C (Ba hw) om oo) ?_))
     rw [hP.w1 k4 om]
     refine Dr 14 C (Ab fld40_1 C) (Dr 15 C (As ef) ?_)
     refine Dr 16 C (Em C C (by unfold InR;omega)) ?_
     rw [Int.one_mul]
     refine Ds1 17 (Se C (Ah call283 C C (Part_ok Bk hfu2.1 hfu2.2 (flow_small hN hD4 hB.flow) hD4)) ?_)
     rintro _ _ ⟨_,_,⟨px,rfl,hpx,rfl⟩,rfl,rfl⟩
     refine ⟨A1,?_⟩
     refine Ds1 18 (Se1 C (Cf (α:=Int) (cs:=[_]) (xs:=[px]) Ac ef C C dc dc C C C C) λad21=>?_)
     refine Ds1 19 (Se2 C (Cm (α:=Int) (e:=3) (xs:=parts) (ys:=([px]:List Int)) Ac ef C C C mm Bk lcn dc C (λ_ _=>am)) λad22 cp23=>?_)
     refine Dr 20 C (Ab fld208_1 C) (C0 kr ?_)
     refine Ae 21 C (Eq ty22) ?_
     rintro _ _ ⟨rfl,rfl⟩
     refine C1 kr ?_
     exact Ak (Aj (Aq (S8 2 3 4 9 16 19 172 173 C C C C C C C C) (Ax (Gr (Rad C C) (Gm C (Bi (B5 ((k4+1),(ad22),(cp23),(parts++([px]:List Int))) (by dsimp only;exact ⟨om,lap,(parts_next hrng.1 (hfs k4 om) hpx hpl hpp)⟩))))))))
    ·refine Bv (Al (Al (A5 (Aj (Ai (Gl2 ty208 ?_))))))
     refine Ge0 (Bq ty208) ?_
     exact Af (A2 (C5 C ty208 C mm C (vc 3 (.slice pa parts.length pc) parts::I) B7 ⟨B,pa,pc,parts,rfl,solve_of hG hm hN hD4 hB om hB6,parts_of hG hm hN hD4 hB om hB6 om (λi hi=>hpp i om),rfl⟩))
end Go.Sl
