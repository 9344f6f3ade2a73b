/- A part of the proofs of statements of this seat: contracts of functions, and the plain laws that they lean on. No conditions. -/
import Derived.Test.YtfkcohmipjhfcaaGreatDoorS15
set_option linter.unusedVariables false
set_option linter.unusedSimpArgs false
set_option linter.unusedSectionVars false
open List (replicate)
namespace Go.Sl
open Go.Proofs
set_option maxRecDepth 4000
def setP2(p:Pt)(j:Int)(n:Int):Pt:=if j=0 then {p with u:=n} else {p with v:=n}
section
variable {P:Program}{κ:Ctx}{N:Frm}{Q:Exit->Act->World->Prop}{L:Env}{I J:List Item}
variable {d:Option Tmp}{ty:TypeId}{ps:String}{af:Array Edge}{gd:Option (Nat×Bool)}
theorem Runs.index2{x y:Operand}{T:TypeId}{u v j:Int}(h0:∀w:World,(Instr.index T (.agg #[e7 u,e7 v]) (e7 0)).run P w = .ok (e7 u) w)(h1:∀w:World,(Instr.index T (.agg #[e7 u,e7 v]) (e7 1)).run P w = .ok (e7 v) w)
  (hx:eo L x=some (.agg #[e7 u,e7 v])) (hy:eo L y=some (e7 j)) (hj:j=0\/j=1):Runs P κ N ⟨d,.index T x y,ty,ps,af,gd⟩ L J (e7 (if j=0 then u else v)):=λa w ha hs=>by
 rcases hj with rfl|rfl
 ·simp [execOp,ha.eval hx,ha.eval hy,h0]
 ·simp [execOp,ha.eval hx,ha.eval hy,h1]
theorem Runs.idxsV(α:Type)[Enc α]{x y:Operand}{T E by' n c:Nat}{ag:Bool}{z:List Value}{ad:Option Addr}{i:Int}(ht:P.underlying T=some (.slice E))(hE:tyF P E=some (Enc.sz α,ag,by',z))(hx:eo L x=some (.slice ad n c))
  (hy:eo L y=some (e7 i)) (ha:ad≠none) (h0:0<=i) (hn:i<n):Runs P κ N ⟨d,.indexAddr T x y,ty,ps,af,gd⟩ L J (elemPtr (.slice ad n c) (i.toNat*Enc.sz α)):=by
 cases ad with
 |none=>exact absurd rfl ha
 |some ad=>exact λa w ha hs=>by simp [execOp,ha.eval hx,ha.eval hy,Instr.indexAt,asIntOf,run_underlying ht,h0,hn,run_sizeOf hE,elemPtr]
theorem Runs.idxElF{x y:Operand}{T E n sz m by' n' c:Nat}{ag:Bool}{z:List Value}{ad:Option Addr}{i:Int}(ht:P.underlying T=some (.array n E))(hE:tyF P E=some (sz,ag,by',z))(hx:eo L x=some (elemPtr (.slice ad n' c) m))
  (hy:eo L y=some (e7 i)) (ha:ad≠none) (h0:0<=i) (hn:i<n):Runs P κ N ⟨d,.indexAddr T x y,ty,ps,af,gd⟩ L J (elemPtr (.slice ad n' c) (m+i.toNat*sz)):=by
 cases ad with
 |none=>exact absurd rfl ha
 |some ad=>
  have e:(ad.add m).add (i.toNat*sz)=ad.add (m+i.toNat*sz):=by
   generalize i.toNat*sz=q
   unfold Addr.add
   by_cases h1:m=0<;>by_cases h2:q=0<;>simp [h1,h2,Nat.add_assoc]
  exact λa w ha hs=>by simp [execOp,ha.eval hx,ha.eval hy,elemPtr,Instr.indexAt,asIntOf,run_underlying ht,h0,hn,run_sizeOf hE,Instr.sureAddr,e]
theorem Eff.setP2{xs:List Pt}{x y:Operand}{T by' e:Nat}{z:List Value}{v:Value}{i j n:Int}{I':List Item}(hT:tyF P T=some (1,false,by',z))(hx:eo L x=some (elemPtr v (i.toNat*Enc.sz Pt+j.toNat*1)))(hy:eo L y=some (e7 n))(hj:j=0\/j=1)
  (h0:0<=i) (hn:i<xs.length) (hat:At I (vc e v xs) (vc e v (xs.set i.toNat (setP2 (e_ xs i) j n))) I'):Eff P κ N Q ⟨none,.store T x y,ty,ps,af,gd⟩ L I λL' I''=>L'=L/\I''=I':=by
 rcases hj with rfl|rfl
 ·exact Eff.setf (α:=Pt) (xs:=xs) (e:=e) (new:={e_ xs i with u:=n}) (j:=0) hT hx hy C C dc C h0 hn hat
 ·exact Eff.setf (α:=Pt) (xs:=xs) (e:=e) (new:={e_ xs i with v:=n}) (j:=1) hT hx hy C C dc C h0 hn hat
theorem Eff.setC2{x y:Operand}{T sz by' b E:Nat}{ag:Bool}{z:List Value}{p q j n:Int}{I':List Item}(hT:tyF P T=some (sz,ag,by',z))(hs1:sz=1)(hx:eo L x=some (.pointer (some ⟨b,0+j.toNat*1,none⟩)))(hy:eo L y=some (e7 n))(hj:j=0\/j=1)
  (hat:At I (e8 b [e7 p,e7 q] E) (e8 b [e7 (if j=0 then n else p),e7 (if j=0 then q else n)] E) I'):Eff P κ N Q ⟨none,.store T x y,ty,ps,af,gd⟩ L I λL' I''=>L'=L/\I''=I':=by
 rcases hj with rfl|rfl
 ·exact Eff.store (vs:=[e7 n]) hT hx hy C (by rw [hs1];rfl) (λu hu=>by rw [List.mem_singleton] at hu;subst hu;rfl) (by simp) C hat
 ·exact Eff.store (vs:=[e7 n]) hT hx hy C (by rw [hs1];rfl) (λu hu=>by rw [List.mem_singleton] at hu;subst hu;rfl) (by simp) C hat
end
theorem ix2a(u v:Int)(w:World):(Instr.index 64 (.agg #[e7 u,e7 v]) (e7 0)).run Tryz.prog w = .ok (e7 u) w:=by kernel_rfl
theorem ix2b(u v:Int)(w:World):(Instr.index 64 (.agg #[e7 u,e7 v]) (e7 1)).run Tryz.prog w = .ok (e7 v) w:=by kernel_rfl
structure PlainP (nd:Int) (es:List Pt) (ws bs cs:List Int):Prop where
 wl:ws.length=es.length
 w1:∀i:Nat,i<es.length->e_ ws i=1
 bl:bs.length=nd.toNat
 b0:∀i:Int,0<=i->i<nd->e_ bs i=0
 cl:cs.length=nd.toNat
 c1:∀i:Int,0<=i->i<nd->e_ cs i=1
theorem bit_mem{W:BitVec 64}{u:Int}(h0:0<=u)(h1:u<64):W &&& bitB u≠0#64↔W.getLsbD u.toNat=true:=by
 have hb:bitB u=0#64 ||| 1#64 <<< u.toNat:=by rw [BitVec.zero_or];exact bit_sh h0 h1
 rw [hb]
 constructor
 ·intro h
  obtain ⟨x,hx⟩:=nz_listB.1 h
  rw [mem_andB,mem_orbit h0 h1,Df] at hx
  rcases hx.2 with h2|h2
  ·cases h2
  ·rw [←h2];exact (mem_listB.1 hx.1).2
 ·intro h
  exact nz_listB.2 ⟨u,mem_andB.2 ⟨mem_listB.2 ⟨h0,h⟩,(mem_orbit h0 h1).2 (.inr rfl)⟩⟩
theorem bit_all{u nd:Int}(h0:0<=u)(h1:u<nd)(h2:nd<=64):(bitB u &&& allB nd) &&& ~~~0#64≠0#64:=by
 rw [BitVec.not_zero,BitVec.and_allOnes,BitVec.and_comm]
 exact (bit_mem h0 om).2 (by rw [getLsb_allB om h2 om,decide_eq_true_eq];omega)
theorem insE_yes{W:BitVec 64}{es:List Pt}{k:Nat}(hk:k<es.length)(hr:(0<=(e_ es k).u/\(e_ es k).u<64)/\0<=(e_ es k).v/\(e_ es k).v<64)(h1:W &&& bitB (e_ es k).u≠0#64)(h2:W &&& bitB (e_ es k).v≠0#64):insE W (es.take (k+1))=insE W (es.take k)+1:=by
 rw [insE_take hk,(bit_mem hr.1.1 hr.1.2).1 h1,(bit_mem hr.2.1 hr.2.2).1 h2];rfl
theorem insE_no{W:BitVec 64}{es:List Pt}{k:Nat}(hk:k<es.length)(hr:(0<=(e_ es k).u/\(e_ es k).u<64)/\0<=(e_ es k).v/\(e_ es k).v<64)(h:¬W &&& bitB (e_ es k).u≠0#64\/¬W &&& bitB (e_ es k).v≠0#64):insE W (es.take (k+1))=insE W (es.take k):=by
 rw [insE_take hk]
 rcases h with h|h
 ·rw [bit_mem hr.1.1 hr.1.2,Bool.not_eq_true] at h
  rw [h];simp
 ·rw [bit_mem hr.2.1 hr.2.2,Bool.not_eq_true] at h
  rw [h];simp
theorem flat_succ{α:Type}(f:Nat->List α)(k:Nat):(List.range (k+1)).flatMap f=(List.range k).flatMap f++f k:=by
 rw [List.range_succ,List.flatMap_append];simp
theorem Gain_ok{κ:Ctx}{I:List Item}{nd:Int}{ve vw vb vk:Value}{al:BitVec 64}{es:List Pt}{ws bs cs:List Int}(hl:Sl κ I ve es)(hw:Sl κ I vw ws)(hb:Sl κ I vb bs)(hkc:Sl κ I vk cs)(hG:GrOk nd es)(hm:es.length<=2016)(hP:PlainP nd es ws bs cs)(wb:BitVec 64)(hW:subN nd wb)(hT:TabRd κ I 0 tzCells):ep Tryz.prog κ 232 [.agg #[ve,vw,vb,vk,U64 al,U64 (0#64)],U64 wb] I (λr J=>r = .tuple #[e7 (insE wb es),e7 (cntB wb)]/\I=J):=by
 have hrng:=hG.rng
 have hwl:=hP.wl
 have hbl:=hP.bl
 have hcl:=hP.cl
 refine Ce2 Tryz.func232 C C ?_
 refine Ah (Ge1 (Bc (cs:=[_,_,_,_,_,_]) C C C) λb1=>Ga C (Ga C (Af (Au (Ah (Gf fld211_0 C (Gl ty46 ?_)))))))
 refine Gr (Bx (α:=Pt) (xs:=es) Bo C (Bh hl)) (Gm C (Af (A4 (Bu (σ:=Nat) (λs=>([(1,U64 wb),(2,.pointer (some ⟨b1,0,none⟩)),(4,e7 (insE wb (es.take s))),(5,e7 0),(11,ve),(12,e7 ((es.length:Nat):Int)),(13,e7 ((s:Nat):Int))]:Env)) (λs=>e8 b1 [ve,vw,vb,vk,U64 al,U64 (0#64)] 211::I) (λs=>(s<=es.length)) (λs=>es.length - s) 0 (show ((0:Nat)<=es.length) from om) (Aa C (Aa C (Aa (C4 C (by first|omega|(dsimp only<;>omega)|exact insE_yes hk2 her2 g24 c31|exact (insE_yes hk2 her2 g24 c31).symm|exact insE_no hk2 her2 (.inl g24)|exact insE_no hk2 her2 (.inr c31)|exact (insE_no hk2 her2 (.inl g24)).symm|exact (insE_no hk2 her2 (.inr c31)).symm|rfl)) (Aa C (Aa C (Aa C (Aa (C4 C (by first|omega|(dsimp only<;>omega)|exact insE_yes hk2 her2 g24 c31|exact (insE_yes hk2 her2 g24 c31).symm|exact insE_no hk2 her2 (.inl g24)|exact insE_no hk2 her2 (.inr c31)|exact (insE_no hk2 her2 (.inl g24)).symm|exact (insE_no hk2 her2 (.inr c31)).symm|rfl)) Bj))))))) (show Fit κ _ (e8 b1 [ve,vw,vb,vk,U64 al,U64 (0#64)] 211::I) from A5) ?_))))
 rintro k hp
 have hk:=hp
 have hib:=insE_bd wb (es.take k)
 have htl:(es.take k).length<=k:=by rw [List.length_take];omega
 refine Ah (Gr (A9 C C) (Af (Au (A6 C (λc14=>?_) (λc14=>?_)))))
 ·refine Ay (Aj (Au (A4 (Ah (Gm C (Gr (A3 (α:=Pt) (xs:=es) Bo ty135 C C (Bh hl) om om) ?_))))))
  have hk2:k<es.length:=by omega
  have hed:=hG.edge (e_ es k) (Ca om om)
  have her2:(0<=(e_ es k).u/\(e_ es k).u<64)/\0<=(e_ es k).v/\(e_ es k).v<64:=by omega
  refine Gr (Bp (α:=Pt) (xs:=es) ty135 C (Bh hl) om om) (Ge1 (A8 ty135 C) λb2=>Ga C (Ge0 (Cd ty135) ?_))
  refine Af (Ah (Gm C (Gf fld135_0 C (Gl ef ?_))))
  refine G.e (Ao call237 C C (Bit_ok ((e_ es k).u))) ?_
  rintro _ _ ⟨_,_,⟨rfl,rfl⟩,rfl,rfl⟩
  refine Gr (Cx (a:=wb) (b:=bitB ((e_ es k).u)) C C) (Gr (Er (a:=wb &&& (bitB ((e_ es k).u))) (b:=0#64) C C) (Gm C (Ba (d:=24) C (λg24=>?_) (λg24=>?_))))
  ·refine e9 (Ad C) (e9 (Ab fld135_1 C) (e9 (As ef) ?_))
   refine Ec (Cq C C C) (Ao call237 C C (Bit_ok ((e_ es k).v))) ?_
   rintro _ _ ⟨_,_,⟨rfl,rfl⟩,rfl,rfl⟩
   refine e9 (Cx (a:=wb) (b:=bitB ((e_ es k).v)) C C) (e9 (Er (a:=wb &&& (bitB ((e_ es k).v))) (b:=0#64) C C) (Gr (Am C C) (Af (Aq (S9 31 6 1 2 4 5 11 12 13 C C C C C C C C C) (A6 C (λc31=>?_) (λc31=>?_))))))
   ·refine Ax (Gm C (Gf fld211_1 C (Gl ty22 ?_)))
    refine Gm C (Gr (A3 (α:=Int) (xs:=ws) Ac ef C C (Bh hw) om om) (Gr (Bz (xs:=ws) ef C (Bh hw) om om) ?_))
    rw [hP.w1 k hk2]
    exact Gr (Rad C C) (Ga C (Bd (Ak (Aj (Aq (S7 4 1 2 5 11 12 13 C C C C C C C) (Ax (Gr (Rad C C) (Gm C (Bd (B2 ((k+1)) om (hL:=(Aa C (Aa C (Aa (C4 C (by first|omega|(dsimp only<;>omega)|exact insE_yes hk2 her2 g24 c31|exact (insE_yes hk2 her2 g24 c31).symm|exact insE_no hk2 her2 (.inl g24)|exact insE_no hk2 her2 (.inr c31)|exact (insE_no hk2 her2 (.inl g24)).symm|exact (insE_no hk2 her2 (.inr c31)).symm|rfl)) (Aa C (Aa C (Aa C (Aa (C4 C (by first|omega|(dsimp only<;>omega)|exact insE_yes hk2 her2 g24 c31|exact (insE_yes hk2 her2 g24 c31).symm|exact insE_no hk2 her2 (.inl g24)|exact insE_no hk2 her2 (.inr c31)|exact (insE_no hk2 her2 (.inl g24)).symm|exact (insE_no hk2 her2 (.inr c31)).symm|rfl)) Bj))))))))))))))))))
   ·exact Ay (Ak (Aj (Ax (Gr (Rad C C) (Gm C (Bd (B2 ((k+1)) om (hL:=(Aa C (Aa C (Aa (C4 C (by first|omega|(dsimp only<;>omega)|exact insE_yes hk2 her2 g24 c31|exact (insE_yes hk2 her2 g24 c31).symm|exact insE_no hk2 her2 (.inl g24)|exact insE_no hk2 her2 (.inr c31)|exact (insE_no hk2 her2 (.inl g24)).symm|exact (insE_no hk2 her2 (.inr c31)).symm|rfl)) (Aa C (Aa C (Aa C (Aa (C4 C (by first|omega|(dsimp only<;>omega)|exact insE_yes hk2 her2 g24 c31|exact (insE_yes hk2 her2 g24 c31).symm|exact insE_no hk2 her2 (.inl g24)|exact insE_no hk2 her2 (.inr c31)|exact (insE_no hk2 her2 (.inl g24)).symm|exact (insE_no hk2 her2 (.inr c31)).symm|rfl)) Bj)))))))))))))))
  ·exact eb (eb (eb (eb (eb (eb (Gr (Al C C) (Af (Aq (S9 31 6 1 2 4 5 11 12 13 C C C C C C C C C) (C2 C (Ay (Ak (Aj (Ax (Gr (Rad C C) (Gm C (Bd (B2 ((k+1)) om (hL:=(Aa C (Aa C (Aa (C4 C (by first|omega|(dsimp only<;>omega)|exact insE_yes hk2 her2 g24 c31|exact (insE_yes hk2 her2 g24 c31).symm|exact insE_no hk2 her2 (.inl g24)|exact insE_no hk2 her2 (.inr c31)|exact (insE_no hk2 her2 (.inl g24)).symm|exact (insE_no hk2 her2 (.inr c31)).symm|rfl)) (Aa C (Aa C (Aa C (Aa (C4 C (by first|omega|(dsimp only<;>omega)|exact insE_yes hk2 her2 g24 c31|exact (insE_yes hk2 her2 g24 c31).symm|exact insE_no hk2 her2 (.inl g24)|exact insE_no hk2 her2 (.inr c31)|exact (insE_no hk2 her2 (.inl g24)).symm|exact (insE_no hk2 her2 (.inr c31)).symm|rfl)) Bj)))))))))))))))))))))))))
 ·refine Bs (Ap (Ap (A7 (Aj (Au (Ah (Gm C ?_)))))))
  have hfull:es.take k=es:=List.take_of_length_le om
  rw [hfull]
  refine Gc2 (Ao call171 C C (MList_ok wb (Cg hT A0))) λad3 cp4=>?_
  refine Gr (Bm Ac C) (Gm C (Af (A4 (Bu (σ:=Nat) (λs=>([(2,.pointer (some ⟨b1,0,none⟩)),(4,e7 (insE wb es)),(5,e7 ((s:Nat):Int)),(41,.slice ad3 (el wb).length cp4),(42,e7 ((((el wb).length:Nat):Int))),(43,e7 ((s:Nat):Int))]:Env)) (λs=>vc 3 (.slice ad3 (el wb).length cp4) (el wb)::e8 b1 [ve,vw,vb,vk,U64 al,U64 (0#64)] 211::I) (λs=>(s<=(el wb).length)) (λs=>(el wb).length - s) 0 (show ((0:Nat)<=(el wb).length) from om) (Aa C (Aa C (Aa (C4 C (by first|omega|(dsimp only<;>omega)|exact insE_yes hk2 her2 g24 c31|exact (insE_yes hk2 her2 g24 c31).symm|exact insE_no hk2 her2 (.inl g24)|exact insE_no hk2 her2 (.inr c31)|exact (insE_no hk2 her2 (.inl g24)).symm|exact (insE_no hk2 her2 (.inr c31)).symm|rfl)) (Aa C (Aa C (Aa (C4 C (by first|omega|(dsimp only<;>omega)|exact insE_yes hk2 her2 g24 c31|exact (insE_yes hk2 her2 g24 c31).symm|exact insE_no hk2 her2 (.inl g24)|exact insE_no hk2 her2 (.inr c31)|exact (insE_no hk2 her2 (.inl g24)).symm|exact (insE_no hk2 her2 (.inr c31)).symm|rfl)) Bj)))))) (show Fit κ _ (vc 3 (.slice ad3 (el wb).length cp4) (el wb)::e8 b1 [ve,vw,vb,vk,U64 al,U64 (0#64)] 211::I) from A5) ?_))))
  rintro k hp
  have hk:=hp
  have hib:=insE_bd wb es
  have hll:=listB_len wb
  have hvr:k<(el wb).length->0<=(e_ (el wb) k)/\(e_ (el wb) k)<nd:=λh=>by have hmm:=Ca (xs:=el wb) (i:=(k:Int)) om om;have h1:=listB_lt hmm;have h2:=hW _ hmm;omega
  refine Ah (Gr (A9 C C) (Af (Au (A6 C (λc44=>?_) (λc44=>?_)))))
  ·refine Ay (Aj (Au (A4 (Ah (Gr (A3 (α:=Int) (xs:=el wb) Ac ef C C Bg om om) (Gr (Bz (xs:=el wb) ef C Bg om om) (Ga C ?_)))))))
   have hv2:=hvr om
   refine Af (Ah (Gm C (Gf fld211_2 C (Gl ty22 ?_))))
   refine Gm C (Gr (A3 (α:=Int) (xs:=bs) Ac ef C C (Bh hb) om om) (Gr (Bz (xs:=bs) ef C (Bh hb) om om) ?_))
   rw [hP.b0 (e_ (el wb) k) hv2.1 hv2.2]
   refine Gr (Rad C C) (Ga C (Af (Aq (S7 4 9 2 5 41 42 43 C C C C C C C) (Ax (Gm C (Gf fld211_3 C (Gl ty22 ?_)))))))
   refine Gm C (Gr (A3 (α:=Int) (xs:=cs) Ac ef C C (Bh hkc) om om) (Gr (Bz (xs:=cs) ef C (Bh hkc) om om) ?_))
   rw [hP.c1 (e_ (el wb) k) hv2.1 hv2.2]
   exact Gr (Rad C C) (Ga C (Bd (Ak (Aj (Aq (S6 5 4 2 41 42 43 C C C C C C) (Ax (Gr (Rad C C) (Gm C (Bd (B2 ((k+1)) om (hL:=(Aa C (Aa (C4 C (by first|omega|(dsimp only<;>omega)|exact insE_yes hk2 her2 g24 c31|exact (insE_yes hk2 her2 g24 c31).symm|exact insE_no hk2 her2 (.inl g24)|exact insE_no hk2 her2 (.inr c31)|exact (insE_no hk2 her2 (.inl g24)).symm|exact (insE_no hk2 her2 (.inr c31)).symm|rfl)) (Aa (C4 C (by first|omega|(dsimp only<;>omega)|exact insE_yes hk2 her2 g24 c31|exact (insE_yes hk2 her2 g24 c31).symm|exact insE_no hk2 her2 (.inl g24)|exact insE_no hk2 her2 (.inr c31)|exact (insE_no hk2 her2 (.inl g24)).symm|exact (insE_no hk2 her2 (.inr c31)).symm|rfl)) (Aa C (Aa C (Aa (C4 C (by first|omega|(dsimp only<;>omega)|exact insE_yes hk2 her2 g24 c31|exact (insE_yes hk2 her2 g24 c31).symm|exact insE_no hk2 her2 (.inl g24)|exact insE_no hk2 her2 (.inr c31)|exact (insE_no hk2 her2 (.inl g24)).symm|exact (insE_no hk2 her2 (.inr c31)).symm|rfl)) Bj)))))))))))))))))
  ·refine Bs (Ap (Ap (A7 (Aj (Ah (Gm C (Gm C (Ga C (Ga C (Af (Aw ?_)))))))))))
   have hkk:(k:Int)=cntB wb:=by unfold cntB;omega
   exact Co C C C I A0 ⟨by rw [hkk],rfl⟩
theorem Arc_ok{κ:Ctx}{I:List Item}{b:Nat}{nn:Int}{a:Option Addr}{c:Nat}{arcs:List Arc}(f t m:Int)(hlen:arcs.length<=100000):ep Tryz.prog κ 281 [e7 f,e7 t,e7 m,.pointer (some ⟨b,0,none⟩)] (e8 b [e7 nn,e7 0,e7 1,.slice a arcs.length c] 303::vc 305 (.slice a arcs.length c) (arcs)::I) (λr J=>∃a2 c2,r=e7 ((arcs.length:Nat):Int)/\J=e8 b [e7 nn,e7 0,e7 1,.slice a2 (arcs++[(⟨f,t,m⟩:Arc)]).length c2] 303::vc 305 (.slice a2 (arcs++[(⟨f,t,m⟩:Arc)]).length c2) (arcs++[(⟨f,t,m⟩:Arc)])::I):=by
 refine Ce4 Tryz.func281 C C ?_
 refine Ah (Ga C (Af (Ah (Gf fld303_3 C (Gl ty301 ?_)))))
 refine Gm C (Gm C (Gm C (Gr (Bf (cells:=[_,_,_]) ty305 Tryz.underlying305 pl305 C C) (Ge1 (B0 (α:=Arc) (cs:=[_,_,_]) (xs:=[⟨f,t,m⟩]) Dl ty305 C C dc dc C C C C) λad1=>?_))))
 refine Ge2 (B1 (α:=Arc) (e:=305) (xs:=arcs) (ys:=([⟨f,t,m⟩]:List Arc)) Dl ty305 C C C mm Bg lcn dc C (λ_ _=>am)) λad2 cp3=>?_
 refine Gf fld303_3 C (Ge0 (Eff.st (cs:=[_,_,_,_]) (vs:=[_]) (cs':=[_,_,_,_]) ty301) ?_)
 refine Af (Aq (S1 3 C) (Ah (Gf fld303_3 C (Gl ty301 ?_))))
 refine Gr (Bm Dl C) (Gr (Runs.sub C C (by unfold InR;simp only [List.length_append,List.length_cons,List.length_nil];omega)) (Ga C (Af (Aw ?_))))
 have hal:(((arcs++[(⟨f,t,m⟩:Arc)]).length:Nat):Int) - 1=((arcs.length:Nat):Int):=by simp only [List.length_append,List.length_cons,List.length_nil];omega
 exact A1 C C (e8 b [e7 nn,e7 0,e7 1,.slice ad2 (arcs++[(⟨f,t,m⟩:Arc)]).length cp3] 303::vc 305 (.slice ad2 (arcs++[(⟨f,t,m⟩:Arc)]).length cp3) (arcs++[(⟨f,t,m⟩:Arc)])::I) B4 ⟨ad2,cp3,by rw [hal],rfl⟩
theorem Part_ok{κ:Ctx}{I:List Item}{ve vw vb vk vf:Value}{al:BitVec 64}{fl:List Int}{p q i total:Int}(hf:Sl κ I vf fl)(hp:p<fl.length)(hq:q<fl.length)(hb:∀x∈fl,0<=x/\x<=4096)(ht:0<=total/\total<=4096):ep Tryz.prog κ 283 [.agg #[ve,vw,vb,vk,U64 al,U64 (0#64)],e7 i,.agg #[e7 p,e7 q],vf,e7 total] I (λr J=>∃x:Int,r=e7 x/\I=J):=by
 refine Ce5 Tryz.func283 C C ?_
 refine Ah (Ge1 (Bc (cs:=[_,_,_,_,_,_]) C C C) λb1=>Ge1 (Bc (cs:=[_,_]) C C C) λb2=>Ga C (Af (Ah (Ge1 (A8 ty64 C) λb3=>Af (Au (Ah (Gl2 ty64 ?_)))))))
 refine Gm C (Af (A4 (Bu (σ:=Nat×Int×Int) (λs=>([(3,vf),(4,e7 total),(7,.pointer (some ⟨b2,0,none⟩)),(11,.pointer (some ⟨b3,0,none⟩)),(15,.agg #[e7 p,e7 q]),(16,e7 ((s.1:Nat):Int))]:Env)) (λs=>e8 b3 [e7 (s.2.1),e7 (s.2.2)] 64::e8 b2 [e7 p,e7 q] 64::e8 b1 [ve,vw,vb,vk,U64 al,U64 (0#64)] 211::I) (λs=>(s.1<=2)/\(0<=s.2.1/\s.2.1<=4096)/\(0<=s.2.2/\s.2.2<=4096)) (λs=>2 - s.1) (0,0,0) (show ((0:Nat)<=2)/\(0<=(0:Int)/\(0:Int)<=4096)/\(0<=(0:Int)/\(0:Int)<=4096) from ⟨om,om,om⟩) (Aa C (Aa C (Aa C (Aa C (Aa C (Aa B9 Bj)))))) (show Fit κ _ (e8 b3 [e7 ((0)),e7 ((0))] 64::e8 b2 [e7 p,e7 q] 64::e8 b1 [ve,vw,vb,vk,U64 al,U64 (0#64)] 211::I) from A5) ?_)))
 rintro ⟨j,e0,e1⟩ hp
 dsimp only at hp ⊢
 obtain ⟨hj,he0,he1⟩:=hp
 have hpq:(if (j:Int)=0 then p else q)<fl.length:=by split<;>assumption
 refine Ah (Gr (A9 C C) (Af (Au (A6 C (λc17=>?_) (λc17=>?_)))))
 ·refine Ay (Aj (Au (A4 (Ah (Gm C (Gr (Runs.index2 (ix2a _ _) (ix2b _ _) C C om) (Ga C (Ga C (Af (Ah (Gm C (Gr (B8 C C) (Af (A6 C (λc21=>?_) (λc21=>?_)))))))))))))))
  ·refine Ax (Gm C (Gm C (Gm C (Gr (A3 (α:=Int) (xs:=fl) Ac ef C C (Bh hf) om om) (Gr (Bz (xs:=fl) ef C (Bh hf) om om) ?_)))))
   have hvx:=hb _ (Ca (xs:=fl) (i:=(if (j:Int)=0 then p else q)) om om)
   generalize e_ fl (if (j:Int)=0 then p else q)=xv at hvx ⊢
   refine Gr (Cl Ce ty2 C C om om) (Ge0 (Eff.setC2 (p:=e0) (q:=e1) (j:=(j:Int)) (n:=xv) ef C C C om am) ?_)
   exact Bd (Ak (Aj (Aq (S6 3 4 7 11 15 16 C C C C C C) (Ax (Gr (Rad C C) (Gm C (Bd (B2 ((j+1),(if (j:Int)=0 then xv else e0),(if (j:Int)=0 then e1 else xv)) (by dsimp only;exact ⟨om,(by first|exact he0|(split<;>first|exact he0|exact hvx)),(by first|exact he1|(split<;>first|exact he1|exact hvx))⟩)))))))))
  ·exact Ay (Ak (Aj (Ax (Gr (Rad C C) (Gm C (Bd (B2 ((j+1),(e0),(e1)) (by dsimp only;exact ⟨om,(by first|exact he0|(split<;>first|exact he0|exact hvx)),(by first|exact he1|(split<;>first|exact he1|exact hvx))⟩))))))))
 ·refine Bs (Ap (Ap (A7 (Aj (Ah (Gm C (Gr (Cl Ce ty2 C C om om) (Gl ef ?_))))))))
  refine Gr (Rsu C C) (Gr (Cl Ce ty2 C C om om) (Gl ef ?_))
  refine Gr (Rsu C C) (Ga C (Af (Aq (S3 14 7 11 C C C) (Au (Ah (Gr (Cl Ce ty2 C C om om) (Gl ef ?_)))))))
  refine Gr (B8 C C) (Gm C (Ba (d:=39) C (λg39=>?_) (λg39=>?_)))
  ·refine e9 (Cl Ce ty2 C C om om) (e9 (As ef) ?_)
   refine e9 (A9 C C) (Gr (Am C C) (Af (A6 C (λc43=>?_) (λc43=>?_))))
   ·refine Ax (Ga C (Af (Ah (Gr (Cl Ce ty2 C C om om) (Gl ef ?_)))))
    exact Gm C (Gr (Rad C C) (Ga C (Af (Aq (S1 10 C) (Aw (A1 C C I A0 ⟨_,rfl,rfl⟩))))))
   ·refine Ay (Aj (Ah (Gr (Cl Ce ty2 C C om om) (Gl ef ?_))))
    exact Gm C (Gr (Rad C C) (Ga C (Af (Aq (S1 10 C) (Aw (A1 C C I A0 ⟨_,rfl,rfl⟩))))))
  ·refine eb (eb (eb (Gr (Al C C) (Af (C2 C (Ay (Aj (Ah (Gr (Cl Ce ty2 C C om om) (Gl ef ?_))))))))))
   exact Gm C (Gr (Rad C C) (Ga C (Af (Aq (S1 10 C) (Aw (A1 C C I A0 ⟨_,rfl,rfl⟩))))))
def stepP(q:Int)(j:Nat):Pt:=if j=0 then ⟨-1, -1⟩ else if j=1 then ⟨q, -1⟩ else ⟨q,q+1⟩
theorem step_first{fs fs3:List Pt}{k2 j:Nat}{q n:Int}(h:fs3=fs.set k2 (stepP q j))(hk:k2<fs.length)(hj:j<2)(hn:n=q+(j:Int)):List.set fs3 ((k2:Int)).toNat (setP2 (e_ fs3 k2) (j:Int) n)=fs.set k2 (stepP q (j+1)):=by
 subst h hn
 rw [Int.toNat_natCast,at_setn _ _ _ _ hk,if_pos rfl,List.set_set]
 congr 1
 rcases (show j=0\/j=1 by omega) with rfl|rfl<;>simp [setP2,stepP]
theorem first_next{nd:Int}{fs fs3:List Pt}{k2 j:Nat}(h:fs3=fs.set k2 (stepP (2*nd+3*(k2:Int)+1) j))(hj:j=2)(hk:k2<fs.length)(hfs:∀i:Nat,i<k2->e_ fs i=stepP (2*nd+3*(i:Int)+1) 2):∀i:Nat,i<k2+1->e_ fs3 i=stepP (2*nd+3*(i:Int)+1) 2:=λi hi=>by
 subst h hj
 rw [at_setn _ _ _ _ hk]
 by_cases e:k2=i
 ·subst e;rw [if_pos rfl]
 ·rw [if_neg e];exact hfs i om
theorem flow_small{nd N D:Int}{es:List Pt}{f:List Int}(hN:0<=N/\N<=4096)(hD:0<=D/\D<=4096)(hf:IsFlow (denseNet nd N D es) f):∀x∈f,0<=x/\x<=4096:=λx hx=>by
 obtain ⟨i,hi,rfl⟩:=List.getElem_of_mem hx
 have hi2:i<(denseNet nd N D es).arcs.length:=by rw [←hf.len];exact hi
 have h:=hf.cap i hi2
 rw [Dx f i hi] at h
 have hm:e_ (denseArcs nd N D es) i∈denseArcs nd N D es:=Ca om (by have:i<(denseArcs nd N D es).length:=hi2;omega)
 have hc:(e_ (denseArcs nd N D es) i).cap<=4096:=by
  rcases mem_denseArcs.1 hm with ⟨v,hv,h⟩|⟨j,hj,h⟩
  ·simp only [nodeArcs,List.mem_cons,List.not_mem_nil,or_false] at h
   rcases h with h|h<;>rw [h]<;>simp only<;>omega
  ·simp only [edgeArcs,List.mem_cons,List.not_mem_nil,or_false] at h
   rcases h with h|h|h<;>rw [h]<;>simp only<;>omega
 have e:(denseNet nd N D es).arcs=denseArcs nd N D es:=rfl
 rw [e] at h
 omega
theorem or_yes{B:BitVec 64}{k:Nat}{p:Int->Prop}(hk:k<64)(h:∀v:Int,v∈el B↔(0<=v/\v<(k:Int))/\p v)(hp:p (k:Int)):∀v:Int,v∈el (B ||| bitB (k:Int))↔(0<=v/\v<((k+1:Nat):Int))/\p v:=λv=>by
 rw [bit_sh om om]
 rw [mem_orbit om om,h v]
 constructor
 ·rintro (⟨h1,h2⟩|h1)
  ·exact ⟨by omega,h2⟩
  ·have:v=(k:Int):=by omega
   subst this;exact ⟨by omega,hp⟩
 ·rintro ⟨h1,h2⟩
  by_cases e:v=(k:Int)
  ·right;omega
  ·left;exact ⟨by omega,h2⟩
theorem or_no{B:BitVec 64}{k:Nat}{p:Int->Prop}(h:∀v:Int,v∈el B↔(0<=v/\v<(k:Int))/\p v)(hp:¬p (k:Int)):∀v:Int,v∈el B↔(0<=v/\v<((k+1:Nat):Int))/\p v:=λv=>by
 rw [h v]
 constructor
 ·rintro ⟨h1,h2⟩;exact ⟨by omega,h2⟩
 ·rintro ⟨h1,h2⟩
  by_cases e:v=(k:Int)
  ·subst e;exact absurd h2 hp
  ·exact ⟨by omega,h2⟩
theorem solve_of{nd N D:Int}{es:List Pt}(hG:GrOk nd es)(hm:es.length<=2016)(hN:0<=N/\N<=4096)(hD:0<=D/\D<=4096){f:List Int}{side:List Bool}(hB:BothP (denseNet nd N D es) f side){B:BitVec 64}{k:Nat}(hk:k=nd.toNat)
  (h:∀v:Int,v∈el B↔(0<=v/\v<(k:Int))/\e_ side (2+v)=true):SolveP nd N D es B:=by
 obtain ⟨T,hT1,hT2⟩:=hB.great
 have hr:=hG.rng
 refine great_solve hG hm om om hB.flow hT1 λv=>?_
 rw [h v]
 constructor
 ·rintro ⟨h1,h2⟩
  rw [hT2 (2+v) om (by show 2+v<2+nd+(es.length:Int);omega)] at h2
  exact ⟨by omega,h2⟩
 ·rintro ⟨h1,h2⟩
  refine ⟨by omega,?_⟩
  rw [hT2 (2+v) om (by show 2+v<2+nd+(es.length:Int);omega)]
  exact h2
set_option maxHeartbeats 4000000 in
theorem Solve_ok{κ:Ctx}{I:List Item}{nd:Int}{ve vw vb vk:Value}{es:List Pt}{ws bs cs:List Int}(hl:Sl κ I ve es)(hw:Sl κ I vw ws)(hb:Sl κ I vb bs)(hkc:Sl κ I vk cs)(hG:GrOk nd es)(hm:es.length<=2016)(hP:PlainP nd es ws bs cs){nu de:Int}(hN:0<=nu/\nu<=4096)(hD:1<=de/\de<=64):ep Tryz.prog κ 233 [.agg #[ve,vw,vb,vk,U64 (allB nd),U64 (0#64)],.agg #[e7 nu,e7 de]] I (λr J=>∃B a c parts,r = .agg #[U64 B,.slice a (parts:List Int).length c]/\SolveP nd nu de es B/\parts.length=es.length/\J=vc 3 (.slice a parts.length c) parts::I):=by
 have hrng:=hG.rng
 have hwl:=hP.wl
 have hbl:=hP.bl
 have hcl:=hP.cl
 have hD4:0<=de/\de<=4096:=by omega
 refine Ce2 Tryz.func233 C C ?_
 refine Ah (Ge1 (Bc (cs:=[_,_,_,_,_,_]) C C C) λb1=>Ge1 (Bc (cs:=[_,_]) C C C) λb2=>Ge1 (A8 ty208 C) λb3=>Af (Ah (Gf fld211_3 C (Gl ty22 ?_))))
 refine Gr (Bx (α:=Int) (xs:=cs) Ac C (Bh hkc)) (Gr (Rad C C) (Gf fld211_0 C (Gl ty46 ?_)))
 refine Gr (Bx (α:=Pt) (xs:=es) Bo C (Bh hl)) (Gr (Rad C C) ?_)
 rw [show (2:Int)+((cs.length:Nat):Int)+((es.length:Nat):Int)=2+nd+((es.length:Nat):Int) by omega]
 refine Gr (Bf (cells:=[_,_,_,_]) ty303 Tryz.underlying303 pl303 C C) (Ge1 (A8 ty303 C) λb4=>Ge0 (Es4_4 ty303) ?_)
 refine G.fit (J:=vc 305 (.slice none 0 0) (([]:List Arc))::e8 b4 [e7 (2+nd+((es.length:Nat):Int)),e7 0,e7 1,.slice none 0 0] 303::e8 b3 [.int .u64 0,.slice none 0 0] 208::e8 b2 [e7 nu,e7 de] 40::e8 b1 [ve,vw,vb,vk,U64 (allB nd),U64 (0#64)] 211::I) (Bt (α:=Arc) _ _) ?_
 refine Af (Aq (S4 5 4 3 2 C C C C) (Ah (Gr (D8 C C) (Ga C (Af (Au (Ah (Gf fld211_3 C (Gl ty22 ?_)))))))))
 refine Gr (Bx (α:=Int) (xs:=cs) Ac C (Bh hkc)) (Gm C (Af (A4 (Bu (σ:=Nat×(Option Addr)×Nat×(List Arc)) (λs=>([(2,.pointer (some ⟨b1,0,none⟩)),(3,.pointer (some ⟨b2,0,none⟩)),(4,.pointer (some ⟨b3,0,none⟩)),(5,.pointer (some ⟨b4,0,none⟩)),(6,.func (.func 281) #[] #[.pointer (some ⟨b4,0,none⟩)]),(33,vk),(34,e7 ((cs.length:Nat):Int)),(35,e7 ((s.1:Nat):Int))]:Env)) (λs=>e8 b4 [e7 (2+nd+((es.length:Nat):Int)),e7 0,e7 1,.slice s.2.1 s.2.2.2.length s.2.2.1] 303::vc 305 (.slice s.2.1 s.2.2.2.length s.2.2.1) (s.2.2.2)::e8 b3 [.int .u64 0,.slice none 0 0] 208::e8 b2 [e7 nu,e7 de] 40::e8 b1 [ve,vw,vb,vk,U64 (allB nd),U64 (0#64)] 211::I) (λs=>(s.1<=cs.length)/\(s.2.2.2=(List.range s.1).flatMap (nodeArcs nu))) (λs=>cs.length - s.1) (0,none,0,[]) (show ((0:Nat)<=cs.length)/\(([]:List Arc)=(List.range (0:Nat)).flatMap (nodeArcs nu)) from ⟨om,rfl⟩) (Aa C (Aa C (Aa C (Aa C (Aa C (Aa C (Aa C (Aa B9 Bj)))))))) (show Fit κ _ (e8 b4 [e7 (2+nd+((es.length:Nat):Int)),e7 0,e7 1,.slice none ([]).length 0] 303::vc 305 (.slice none ([]).length 0) (([]))::e8 b3 [.int .u64 0,.slice none 0 0] 208::e8 b2 [e7 nu,e7 de] 40::e8 b1 [ve,vw,vb,vk,U64 (allB nd),U64 (0#64)] 211::I) from B4) ?_))))
 rintro ⟨k,a,c,ar⟩ hp
 dsimp only at hp ⊢
 obtain ⟨hkk,har⟩:=hp
 have harl:ar.length=2*k:=by rw [har,flat_len _ 2 (λ_=>rfl)];omega
 refine Ah (Gr (A9 C C) (Af (Au (A6 C (λc36=>?_) (λc36=>?_)))))
 ·refine Ay (Aj (Au (A4 (Ah (Gm C (Gr (A3 (α:=Int) (xs:=cs) Ac ef C C (Bh hkc) om oo) (Gr (Bz (xs:=cs) ef C (Bh hkc) om oo) ?_)))))))
  have hkn:k<nd.toNat:=by omega
  rw [hP.c1 (k:Int) om om]
  refine Ga C (Ga C (Af (Aq (S10 8 7 2 3 4 5 6 33 34 35 C C C C C C C C C C) (Au (Bl mixed (Br (e8 b4 [e7 (2+nd+((es.length:Nat):Int)),e7 0,e7 1,.slice a ar.length c] 303::vc 305 (.slice a ar.length c) (ar)::e8 b3 [.int .u64 0,.slice none 0 0] 208::e8 b2 [e7 nu,e7 de] 40::e8 b1 [ve,vw,vb,vk,U64 (allB nd),U64 (0#64)] 211::I) 9 (Dr 0 C (Ad C) (Dr 2 C (Ab fld211_4 C) (Dr 3 C (As ty175) ?_)))))))))
  refine Dr 5 C (Ab fld211_5 C) (Dr 6 C (As ty175) ?_)
  refine Ds1 1 (Se C (Ao call237 C C (Bit_ok (k:Int))) ?_)
  rintro _ _ ⟨_,_,⟨rfl,rfl⟩,rfl,rfl⟩
  refine ⟨A0,?_⟩
  refine Dr 4 C (Cx (a:=bitB (k:Int)) (b:=allB nd) C C) (Dr 7 C (Ek (a:=(bitB (k:Int)) &&& (allB nd)) (b:=0#64) C C) (Dr 8 C (Er (a:=((bitB (k:Int)) &&& (allB nd)) &&& ~~~(0#64)) (b:=0#64) C C) (Dz (Aj (Aq (S11 48 8 7 2 3 4 5 6 33 34 35 C C C C C C C C C C C) (A6 C (λc48=>?_) (λc48=>?_)))))))
  ·refine Au (Bl mixed (Br (e8 b3 [.int .u64 0,.slice none 0 0] 208::e8 b2 [e7 nu,e7 de] 40::e8 b1 [ve,vw,vb,vk,U64 (allB nd),U64 (0#64)] 211::I) 12 (Dr 0 C (Ad C) (Dr 1 C (Ad C) (Dr 2 C (Rad C C) (Dr 3 C (Ab fld211_2 C) (Dr 4 C (As ty22) ?_)))))))
   refine Dr 5 C (Ad C) (Dr 6 C (A3 (α:=Int) (xs:=bs) Ac ef C C (Bh hb) om oo) (Dr 7 C (Bz (xs:=bs) ef C (Bh hb) om oo) ?_))
   rw [hP.b0 (k:Int) om om]
   refine Dr 8 C (Ab fld40_1 C) (Dr 9 C (As ef) ?_)
   refine Dr 10 C (E0 C C (by unfold InR;omega)) ?_
   rw [Int.zero_mul]
   refine Ds1 11 (Sc2 C (Ct call281 C C C (Cm (J:=e8 b4 [e7 (2+nd+((es.length:Nat):Int)),e7 0,e7 1,.slice a ar.length c] 303::vc 305 (.slice a ar.length c) (ar)::e8 b3 [.int .u64 0,.slice none 0 0] 208::e8 b2 [e7 nu,e7 de] 40::e8 b1 [ve,vw,vb,vk,U64 (allB nd),U64 (0#64)] 211::I) B4 (Arc_ok 0 (2+(k:Int)) 0 olp))) λad5 cp6=>?_)
   refine Dz (Aj (Aq (S10 8 7 2 3 4 5 6 33 34 35 C C C C C C C C C C) (Ax (Gm C (Gm C (Gr (Rad C C) (Gm C (Gf fld40_0 C (Gl ef ?_)))))))))
   refine Gr (E0 C C (by unfold InR;omega)) ?_
   rw [Int.one_mul]
   refine Gc2 (Ct call281 C C C (Cm (J:=e8 b4 [e7 (2+nd+((es.length:Nat):Int)),e7 0,e7 1,.slice ad5 (ar++[(⟨0,2+(k:Int),0⟩:Arc)]).length cp6] 303::vc 305 (.slice ad5 (ar++[(⟨0,2+(k:Int),0⟩:Arc)]).length cp6) (ar++[(⟨0,2+(k:Int),0⟩:Arc)])::e8 b3 [.int .u64 0,.slice none 0 0] 208::e8 b2 [e7 nu,e7 de] 40::e8 b1 [ve,vw,vb,vk,U64 (allB nd),U64 (0#64)] 211::I) B4 (Arc_ok (2+(k:Int)) 1 nu olp))) λad7 cp8=>?_
   exact Bd (Ak (Aj (Aq (S8 2 3 4 5 6 33 34 35 C C C C C C C C) (Ax (Gr (Rad C C) (Gm C (Bd (B2 ((k+1),(ad7),(cp8),((ar++[(⟨0,2+(k:Int),0⟩:Arc)])++[(⟨2+(k:Int),1,nu⟩:Arc)])) (by dsimp only;exact ⟨om,(by rw [flat_succ,←har,List.append_assoc];rfl)⟩)))))))))
  ·exact absurd (bit_all (u:=(k:Int)) om om om) c48
 ·refine Bs (Ap (Ap (A7 (Aj (Ah (Gf fld211_0 C (Gl ty46 ?_)))))))
  refine Gr (Bx (α:=Pt) (xs:=es) Bo C (Bh hl)) (Ge2 (Cj (α:=Pt) (n:=es.length) C3 ty64 C C C om om dc C) λad9 cp10=>?_)
  refine Ga C (Af (Aq (S6 9 2 3 4 5 6 C C C C C C) (Au (Ah (Gf fld211_0 C (Gl ty46 ?_))))))
  refine Gr (Bx (α:=Pt) (xs:=es) Bo C (Bh hl)) (Gm C (Af (A4 (Bu (σ:=Nat×(Option Addr)×Nat×(List Arc)×(List Pt)) (λs=>([(2,.pointer (some ⟨b1,0,none⟩)),(3,.pointer (some ⟨b2,0,none⟩)),(4,.pointer (some ⟨b3,0,none⟩)),(5,.pointer (some ⟨b4,0,none⟩)),(6,.func (.func 281) #[] #[.pointer (some ⟨b4,0,none⟩)]),(9,.slice ad9 (replicate es.length (default:Pt)).length cp10),(75,ve),(76,e7 ((es.length:Nat):Int)),(77,e7 ((s.1:Nat):Int))]:Env)) (λs=>e8 b4 [e7 (2+nd+((es.length:Nat):Int)),e7 0,e7 1,.slice s.2.1 s.2.2.2.1.length s.2.2.1] 303::vc 305 (.slice s.2.1 s.2.2.2.1.length s.2.2.1) (s.2.2.2.1)::vc 64 (.slice ad9 (replicate es.length (default:Pt)).length cp10) (s.2.2.2.2)::e8 b3 [.int .u64 0,.slice none 0 0] 208::e8 b2 [e7 nu,e7 de] 40::e8 b1 [ve,vw,vb,vk,U64 (allB nd),U64 (0#64)] 211::I) (λs=>(s.1<=es.length)/\(s.2.2.2.1=ar++(List.range s.1).flatMap (edgeArcs nd de es))/\(s.2.2.2.2.length=es.length)/\(∀i:Nat,i<s.1->e_ s.2.2.2.2 i=stepP (2*nd+3*(i:Int)+1) 2)) (λs=>es.length - s.1) (0,a,c,ar,replicate es.length (default:Pt)) (show ((0:Nat)<=es.length)/\((ar:List Arc)=ar++(List.range (0:Nat)).flatMap (edgeArcs nd de es))/\((replicate es.length (default:Pt):List Pt).length=es.length)/\(∀i:Nat,i<(0:Nat)->e_ (replicate es.length (default:Pt):List Pt) (i:Int)=stepP (2*nd+3*(i:Int)+1) 2) from ⟨om,(by simp),List.length_replicate,(λi h=>by omega)⟩) (Aa C (Aa C (Aa C (Aa C (Aa C (Aa C (Aa C (Aa C (Aa B9 Bj))))))))) (show Fit κ _ (e8 b4 [e7 (2+nd+((es.length:Nat):Int)),e7 0,e7 1,.slice a (ar).length c] 303::vc 305 (.slice a (ar).length c) ((ar))::vc 64 (.slice ad9 (replicate es.length (default:Pt)).length cp10) ((replicate es.length (default:Pt)))::e8 b3 [.int .u64 0,.slice none 0 0] 208::e8 b2 [e7 nu,e7 de] 40::e8 b1 [ve,vw,vb,vk,U64 (allB nd),U64 (0#64)] 211::I) from B4) ?_))))
  rintro ⟨k2,a2,c2,ar2,fs⟩ hp
  dsimp only at hp ⊢
  obtain ⟨hk2,har2,hfl,hfs⟩:=hp
  have har2l:ar2.length=2*k+3*k2:=by rw [har2,List.length_append,harl,flat_len _ 3 (λ_=>rfl)];omega
  refine Ah (Gr (A9 C C) (Af (Au (A6 C (λc78=>?_) (λc78=>?_)))))
  ·refine Ay (Aj (Au (A4 (Ah (Gm C (Gr (A3 (α:=Pt) (xs:=es) Bo ty135 C C (Bh hl) om oo) (Gr (Bp (α:=Pt) (xs:=es) ty135 C (Bh hl) om oo) ?_)))))))
   have hed:=hG.edge (e_ es k2) (Ca om om)
   refine Ge1 (A8 ty135 C) λb11=>Ga C (Ge0 (Cd ty135) ?_)
   refine Af (Aq (S11 10 11 2 3 4 5 6 9 75 76 77 C C C C C C C C C C C) (Ah (Gf fld211_3 C (Gl ty22 ?_))))
   refine Gr (Bx (α:=Int) (xs:=cs) Ac C (Bh hkc)) (Gr (Rad C C) (Gm C (Gr (Rad C C) ?_)))
   rw [show (2:Int)+((cs.length:Nat):Int)+(k2:Int)=2+nd+(k2:Int) by omega]
   refine Ga C (Af (Aq (S12 12 10 11 2 3 4 5 6 9 75 76 77 C C C C C C C C C C C C) (Au (Bl mixed (Br (e8 b11 [e7 ((e_ es k2).u),e7 ((e_ es k2).v)] 135::e8 b4 [e7 (2+nd+((es.length:Nat):Int)),e7 0,e7 1,.slice a2 ar2.length c2] 303::vc 305 (.slice a2 ar2.length c2) (ar2)::vc 64 (.slice ad9 (replicate es.length (default:Pt)).length cp10) (fs)::e8 b3 [.int .u64 0,.slice none 0 0] 208::e8 b2 [e7 nu,e7 de] 40::e8 b1 [ve,vw,vb,vk,U64 (allB nd),U64 (0#64)] 211::I) 9 (Dr 0 C (Ab fld211_1 C) (Dr 1 C (As ty22) ?_)))))))
   refine Dr 2 C (Ad C) (Dr 3 C (A3 (α:=Int) (xs:=ws) Ac ef C C (Bh hw) om oo) (Dr 4 C (Bz (xs:=ws) ef C (Bh hw) om oo) ?_))
   rw [hP.w1 k2 om]
   refine Dr 5 C (Ab fld40_1 C) (Dr 6 C (As ef) ?_)
   refine Dr 7 C (E0 C C (by unfold InR;omega)) ?_
   rw [Int.one_mul]
   refine Dr 8 C (Bb C) (Dz (Aj (Aq (S13 13 12 10 11 2 3 4 5 6 9 75 76 77 C C C C C C C C C C C C C) (Ah (Gm C (Gm C (Gm C (Gc2 (Ct call281 C C C (Cm (J:=e8 b4 [e7 (2+nd+((es.length:Nat):Int)),e7 0,e7 1,.slice a2 ar2.length c2] 303::vc 305 (.slice a2 ar2.length c2) (ar2)::e8 b11 [e7 ((e_ es k2).u),e7 ((e_ es k2).v)] 135::vc 64 (.slice ad9 (replicate es.length (default:Pt)).length cp10) (fs)::e8 b3 [.int .u64 0,.slice none 0 0] 208::e8 b2 [e7 nu,e7 de] 40::e8 b1 [ve,vw,vb,vk,U64 (allB nd),U64 (0#64)] 211::I) B4 (Arc_ok 0 (2+nd+(k2:Int)) de olp))) λad12 cp13=>?_))))))))
   refine Af (Aq (S13 13 12 10 11 2 3 4 5 6 9 75 76 77 C C C C C C C C C C C C C) (Ah (Gm C (Gm C (Gr (Runs.buildArr (cells:=[_,_]) ty64 Ce ef C C) (Gr (A3 (α:=Pt) (xs:=fs) C3 ty64 C C Bg om oo) (Ge0 (Cs (α:=Pt) (xs:=fs) (e:=64) (new:=⟨-1, -1⟩) ty64 C C C om oo am) ?_)))))))
   refine Af (Aq (S13 13 12 10 11 2 3 4 5 6 9 75 76 77 C C C C C C C C C C C C C) (Ah (Gf fld135_0 C (Gl ef ?_))))
   refine Gf fld135_1 C (Gl ef ?_)
   refine Gr (Runs.buildArr (cells:=[_,_]) ty64 Ce ef C C) (Gm C (Af (Aq (S14 109 108 13 12 10 2 3 4 5 6 9 75 76 77 C C C C C C C C C C C C C C) (A4 (Bu (σ:=Nat×(Option Addr)×Nat×(List Arc)×(List Pt)) (λs=>([(2,.pointer (some ⟨b1,0,none⟩)),(3,.pointer (some ⟨b2,0,none⟩)),(4,.pointer (some ⟨b3,0,none⟩)),(5,.pointer (some ⟨b4,0,none⟩)),(6,.func (.func 281) #[] #[.pointer (some ⟨b4,0,none⟩)]),(9,.slice ad9 (replicate es.length (default:Pt)).length cp10),(10,e7 ((k2:Int))),(12,e7 (2+nd+(k2:Int))),(13,e7 de),(75,ve),(76,e7 ((es.length:Nat):Int)),(77,e7 ((k2:Int))),(108,.agg #[e7 ((e_ es k2).u),e7 ((e_ es k2).v)]),(109,e7 ((s.1:Nat):Int))]:Env)) (λs=>e8 b4 [e7 (2+nd+((es.length:Nat):Int)),e7 0,e7 1,.slice s.2.1 s.2.2.2.1.length s.2.2.1] 303::vc 305 (.slice s.2.1 s.2.2.2.1.length s.2.2.1) (s.2.2.2.1)::e8 b11 [e7 ((e_ es k2).u),e7 ((e_ es k2).v)] 135::vc 64 (.slice ad9 (replicate es.length (default:Pt)).length cp10) (s.2.2.2.2)::e8 b3 [.int .u64 0,.slice none 0 0] 208::e8 b2 [e7 nu,e7 de] 40::e8 b1 [ve,vw,vb,vk,U64 (allB nd),U64 (0#64)] 211::I) (λs=>(s.1<=2)/\(s.2.2.2.1=ar2++(edgeArcs nd de es k2).take (1+s.1))/\(s.2.2.2.2=fs.set k2 (stepP (2*nd+3*(k2:Int)+1) s.1))) (λs=>2 - s.1) (0,ad12,cp13,ar2++[(⟨0,2+nd+(k2:Int),de⟩:Arc)],List.set fs ((k2:Int)).toNat (⟨-1, -1⟩)) (show ((0:Nat)<=2)/\((ar2++[(⟨0,2+nd+(k2:Int),de⟩:Arc)]:List Arc)=ar2++(edgeArcs nd de es k2).take (1+(0:Nat)))/\((List.set fs ((k2:Int)).toNat (⟨-1, -1⟩):List Pt)=fs.set k2 (stepP (2*nd+3*(k2:Int)+1) (0:Nat))) from ⟨om,rfl,(by rw [Int.toNat_natCast];rfl)⟩) (Aa C (Aa C (Aa C (Aa C (Aa C (Aa C (Aa C (Aa C (Aa C (Aa C (Aa C (Aa C (Aa C (Aa B9 Bj)))))))))))))) (show Fit κ _ (e8 b4 [e7 (2+nd+((es.length:Nat):Int)),e7 0,e7 1,.slice ad12 (ar2++[(⟨0,2+nd+(k2:Int),de⟩:Arc)]).length cp13] 303::vc 305 (.slice ad12 (ar2++[(⟨0,2+nd+(k2:Int),de⟩:Arc)]).length cp13) ((ar2++[(⟨0,2+nd+(k2:Int),de⟩:Arc)]))::e8 b11 [e7 ((e_ es k2).u),e7 ((e_ es k2).v)] 135::vc 64 (.slice ad9 (replicate es.length (default:Pt)).length cp10) ((List.set fs ((k2:Int)).toNat (⟨-1, -1⟩)))::e8 b3 [.int .u64 0,.slice none 0 0] 208::e8 b2 [e7 nu,e7 de] 40::e8 b1 [ve,vw,vb,vk,U64 (allB nd),U64 (0#64)] 211::I) from B4) ?_)))))
   rintro ⟨j,a3,c3,ar3,fs3⟩ hp
   dsimp only at hp ⊢
   obtain ⟨hj,har3,hfs3⟩:=hp
   refine W.pull (p:=0<fs3.length->ad9≠none) (vc.isSome mm) λhsf=>?_
   have har3l:ar3.length=2*k+3*k2+1+j:=by rw [har3,List.length_append,List.length_take,har2l];show 2*k+3*k2+min (1+j) 3=_;omega
   have hf3l:fs3.length=es.length:=by rw [hfs3,List.length_set];exact hfl
   refine Ah (Gr (A9 C C) (Af (Aq (S15 110 2 3 4 5 6 9 10 12 13 75 76 77 108 109 C C C C C C C C C C C C C C C) (Au (A6 C (λc110=>?_) (λc110=>?_))))))
   ·refine Ay (Aj (Aq (S14 2 3 4 5 6 9 10 12 13 75 76 77 108 109 C C C C C C C C C C C C C C) (Au (A4 (Ah (Gm C (Gr (Runs.index2 (ix2a _ _) (ix2b _ _) C C om) (Ga C (Ga C (Af (Aq (S16 15 14 2 3 4 5 6 9 10 12 13 75 76 77 108 109 C C C C C C C C C C C C C C C C) (Au (Bl mixed (Br (e8 b4 [e7 (2+nd+((es.length:Nat):Int)),e7 0,e7 1,.slice a3 ar3.length c3] 303::vc 305 (.slice a3 ar3.length c3) (ar3)::e8 b11 [e7 ((e_ es k2).u),e7 ((e_ es k2).v)] 135::vc 64 (.slice ad9 (replicate es.length (default:Pt)).length cp10) (fs3)::e8 b3 [.int .u64 0,.slice none 0 0] 208::e8 b2 [e7 nu,e7 de] 40::e8 b1 [ve,vw,vb,vk,U64 (allB nd),U64 (0#64)] 211::I) 6 (Dr 0 C (Ad C) (Dr 2 C (Ab fld211_5 C) (Dr 3 C (As ty175) ?_)))))))))))))))))
    refine Ds1 1 (Se C (Ao call237 C C (Bit_ok (if (j:Int)=0 then (e_ es k2).u else (e_ es k2).v))) ?_)
    rintro _ _ ⟨_,_,⟨rfl,rfl⟩,rfl,rfl⟩
    refine ⟨A0,?_⟩
    refine Dr 4 C (Cx (a:=bitB (if (j:Int)=0 then (e_ es k2).u else (e_ es k2).v)) (b:=0#64) C C) (Dr 5 C (Runs.eqB (a:=(bitB (if (j:Int)=0 then (e_ es k2).u else (e_ es k2).v)) &&& (0#64)) (b:=0#64) C C) (Dz (Aj (Aq (S17 118 15 14 2 3 4 5 6 9 10 12 13 75 76 77 108 109 C C C C C C C C C C C C C C C C C) (A6 C (λc118=>?_) (λc118=>?_))))))
    ·refine Bl mixed (Br (e8 b11 [e7 ((e_ es k2).u),e7 ((e_ es k2).v)] 135::e8 b3 [.int .u64 0,.slice none 0 0] 208::e8 b2 [e7 nu,e7 de] 40::e8 b1 [ve,vw,vb,vk,U64 (allB nd),U64 (0#64)] 211::I) 12 (Dr 0 C (Ad C) (Dr 1 C (Ad C) (Dr 2 C (Ad C) (Dr 3 C (Ad C) (Dr 4 C (Ad C) (Dr 5 C (Ad C) (Dr 6 C (Rad C C) (Dr 7 C (Ad C) (Dr 9 C (Runs.idxsV Pt C3 ty64 C C (hsf om) om (by simp only [List.length_replicate];omega)) (Ds1 8 (Sc2 C (Ct call281 C C C (Cm (J:=e8 b4 [e7 (2+nd+((es.length:Nat):Int)),e7 0,e7 1,.slice a3 ar3.length c3] 303::vc 305 (.slice a3 ar3.length c3) (ar3)::e8 b11 [e7 ((e_ es k2).u),e7 ((e_ es k2).v)] 135::vc 64 (.slice ad9 (replicate es.length (default:Pt)).length cp10) (fs3)::e8 b3 [.int .u64 0,.slice none 0 0] 208::e8 b2 [e7 nu,e7 de] 40::e8 b1 [ve,vw,vb,vk,U64 (allB nd),U64 (0#64)] 211::I) B4 (Arc_ok (2+nd+(k2:Int)) (2+(if (j:Int)=0 then (e_ es k2).u else (e_ es k2).v)) de olp))) λad14 cp15=>?_))))))))))))
     refine Dr 10 C (Runs.idxElF Ce ef C C (hsf om) om om) (Ds1 11 (Se0 C (Eff.setP2 (xs:=fs3) (i:=(k2:Int)) (j:=(j:Int)) (n:=((ar3.length:Nat):Int)) (e:=64) ef C C om om om am) ?_))
     exact Dz (Ak (Aj (Aq (S14 2 3 4 5 6 9 10 12 13 75 76 77 108 109 C C C C C C C C C C C C C C) (Ax (Gr (Rad C C) (Gm C (Bd (B2 ((j+1),(ad14),(cp15),(ar3++[(⟨2+nd+(k2:Int),2+(if (j:Int)=0 then (e_ es k2).u else (e_ es k2).v),de⟩:Arc)]),(List.set fs3 ((k2:Int)).toNat (setP2 (e_ fs3 k2) (j:Int) ((ar3.length:Nat):Int)))) (by dsimp only;exact ⟨om,(by rcases (show j=0\/j=1 by omega) with e|e<;>subst e<;>rw [har3,List.append_assoc]<;>simp [edgeArcs]),(step_first hfs3 om om om)⟩)))))))))
    ·exact absurd BitVec.and_zero c118
   ·exact Bs (Ap (Ap (A7 (Ak (Aj (Aq (S9 2 3 4 5 6 9 75 76 77 C C C C C C C C C) (Ax (Gr (Rad C C) (Gm C (Bd (B2 ((k2+1),(a3),(c3),(ar3),(fs3)) (by dsimp only;exact ⟨om,(by rw [har3,har2,flat_succ,List.append_assoc,List.take_of_length_le (show (edgeArcs nd de es k2).length<=1+j by show 3<=1+j;omega)]),hf3l,(first_next hfs3 om om hfs)⟩))))))))))))
  ·refine Bs (Ap (Ap (A7 (Aj (Ah (Gl4 ty303 ?_))))))
   have hall:ar2=denseArcs nd nu de es:=by rw [har2,har,show k=nd.toNat by omega,show k2=es.length by omega];rfl
   rw [hall]
   have hdl:=denseArcs_len nd nu de es
   refine G.e (Ao call282 C C (Both_ok (n:=denseNet nd nu de es) Bg (denseNet_ok hG hm om om))) ?_
   rintro _ _ ⟨_,_,⟨ad16,cp17,fl,ad18,cp19,side,val,rfl,hB,rfl⟩,rfl,rfl⟩
   have hsl:((side.length:Nat):Int)=2+nd+((es.length:Nat):Int):=hB.len
   have hfl2:fl.length=nd.toNat*2+es.length*3:=hB.flow.len.trans hdl
   refine Gm C (Gr (A2 C C) (Gr (A2 C C) (Gr (A2 C C) (Ga C (Ga C (Ga C (Af (Aq (S6 18 16 2 3 4 9 C C C C C C) (Ah (Gf fld211_5 C (Gl ty175 ?_)))))))))))
   refine Gr (Bf (cells:=[_,_]) ty208 Tryz.underlying208 pl208 C C) (Ge1 (A8 ty208 C) λb20=>Ge0 (Cd ty208) ?_)
   refine Af (Au (Ah (Gf fld211_3 C (Gl ty22 ?_))))
   refine Gr (Bx (α:=Int) (xs:=cs) Ac C (Bh hkc)) (Gm C (Af (Aq (S9 144 143 19 18 16 2 3 4 9 C C C C C C C C C) (A4 (Bu (σ:=Nat×(BitVec 64)) (λs=>([(2,.pointer (some ⟨b1,0,none⟩)),(3,.pointer (some ⟨b2,0,none⟩)),(4,.pointer (some ⟨b3,0,none⟩)),(9,.slice ad9 (replicate es.length (default:Pt)).length cp10),(16,.slice ad16 fl.length cp17),(18,.slice ad18 side.length cp19),(19,.pointer (some ⟨b20,0,none⟩)),(143,e7 ((cs.length:Nat):Int)),(144,e7 ((s.1:Nat):Int))]:Env)) (λs=>e8 b20 [U64 (s.2),.slice none 0 0] 208::vc 4 (.slice ad18 side.length cp19) (side)::vc 3 (.slice ad16 fl.length cp17) (fl)::e8 b4 [e7 (2+nd+((es.length:Nat):Int)),e7 0,e7 1,.slice a2 (denseArcs nd nu de es).length c2] 303::vc 305 (.slice a2 (denseArcs nd nu de es).length c2) ((denseArcs nd nu de es))::vc 64 (.slice ad9 (replicate es.length (default:Pt)).length cp10) (fs)::e8 b3 [.int .u64 0,.slice none 0 0] 208::e8 b2 [e7 nu,e7 de] 40::e8 b1 [ve,vw,vb,vk,U64 (allB nd),U64 (0#64)] 211::I) (λs=>(s.1<=cs.length)/\(∀v:Int,v∈el s.2↔(0<=v/\v<((s.1:Nat):Int))/\e_ side (2+v)=true)) (λs=>cs.length - s.1) (0,0#64) (show ((0:Nat)<=cs.length)/\(∀v:Int,v∈el (0#64:BitVec 64)↔(0<=v/\v<(((0:Nat):Nat):Int))/\e_ side (2+v)=true) from ⟨om,(λv=>by rw [Df];constructor;(· intro h;cases h);(· rintro ⟨h,_⟩;omega))⟩) (Aa C (Aa C (Aa C (Aa C (Aa C (Aa C (Aa C (Aa C (Aa B9 Bj))))))))) (show Fit κ _ (e8 b20 [U64 ((0#64)),.slice none 0 0] 208::vc 4 (.slice ad18 side.length cp19) (side)::vc 3 (.slice ad16 fl.length cp17) (fl)::e8 b4 [e7 (2+nd+((es.length:Nat):Int)),e7 0,e7 1,.slice a2 (denseArcs nd nu de es).length c2] 303::vc 305 (.slice a2 (denseArcs nd nu de es).length c2) ((denseArcs nd nu de es))::vc 64 (.slice ad9 (replicate es.length (default:Pt)).length cp10) (fs)::e8 b3 [.int .u64 0,.slice none 0 0] 208::e8 b2 [e7 nu,e7 de] 40::e8 b1 [ve,vw,vb,vk,U64 (allB nd),U64 (0#64)] 211::I) from A5) ?_)))))
   rintro ⟨k3,B⟩ hp
   dsimp only at hp ⊢
   obtain ⟨hk3,hB6⟩:=hp
   refine Ah (Gr (A9 C C) (Af (Au (A6 C (λc145=>?_) (λc145=>?_)))))
   ·refine Ay (Aj (Au (A4 (Ah (Gm C (Ga C (Af (Au (Bl mixed (Br (e8 b20 [U64 B,.slice none 0 0] 208::vc 4 (.slice ad18 side.length cp19) (side)::vc 3 (.slice ad16 fl.length cp17) (fl)::e8 b4 [e7 (2+nd+((es.length:Nat):Int)),e7 0,e7 1,.slice a2 (denseArcs nd nu de es).length c2] 303::vc 305 (.slice a2 (denseArcs nd nu de es).length c2) ((denseArcs nd nu de es))::vc 64 (.slice ad9 (replicate es.length (default:Pt)).length cp10) (fs)::e8 b3 [.int .u64 0,.slice none 0 0] 208::e8 b2 [e7 nu,e7 de] 40::e8 b1 [ve,vw,vb,vk,U64 (allB nd),U64 (0#64)] 211::I) 16 (Dr 0 C (Ad C) (Dr 2 C (Ab fld211_4 C) (Dr 3 C (As ty175) ?_)))))))))))))
    refine Dr 5 C (Ab fld211_5 C) (Dr 6 C (As ty175) ?_)
    refine Ds1 1 (Se C (Ao call237 C C (Bit_ok (k3:Int))) ?_)
    rintro _ _ ⟨_,_,⟨rfl,rfl⟩,rfl,rfl⟩
    refine ⟨A0,?_⟩
    refine Dr 4 C (Cx (a:=bitB (k3:Int)) (b:=allB nd) C C) (Dr 7 C (Ek (a:=(bitB (k3:Int)) &&& (allB nd)) (b:=0#64) C C) (Dr 8 C (Er (a:=((bitB (k3:Int)) &&& (allB nd)) &&& ~~~(0#64)) (b:=0#64) C C) (Dr 9 C (Ad C) (C9 (d:=156) C (λg156=>?_) (λg156=>?_)))))
    ·refine Dro 10 C (Ad C) (Dro 11 C (Ad C) (Dro 12 C (Rad C C) (Dro 13 C (A3 (α:=Bool) (xs:=side) Bw ty4 C C Bg om oo) (Dro 14 C (Ef (xs:=side) ty4 C Bg om oo) (Dr 15 C (Am C C) (Dz (Aj (Aq (S11 162 20 2 3 4 9 16 18 19 143 144 C C C C C C C C C C C) (Ei C (λc162=>?_) (λc162=>?_))))))))))
     ·refine Bl mixed (Br (e8 b20 [U64 B,.slice none 0 0] 208::vc 4 (.slice ad18 side.length cp19) (side)::vc 3 (.slice ad16 fl.length cp17) (fl)::e8 b4 [e7 (2+nd+((es.length:Nat):Int)),e7 0,e7 1,.slice a2 (denseArcs nd nu de es).length c2] 303::vc 305 (.slice a2 (denseArcs nd nu de es).length c2) ((denseArcs nd nu de es))::vc 64 (.slice ad9 (replicate es.length (default:Pt)).length cp10) (fs)::e8 b3 [.int .u64 0,.slice none 0 0] 208::e8 b2 [e7 nu,e7 de] 40::e8 b1 [ve,vw,vb,vk,U64 (allB nd),U64 (0#64)] 211::I) 6 (Dr 0 C (Ab fld208_0 C) (Dr 1 C (As ty175) ?_)))
      refine Dr 2 C (Ad C) (Ds1 3 (Se C (Ao call237 C C (Bit_ok (k3:Int))) ?_))
      rintro _ _ ⟨_,_,⟨rfl,rfl⟩,rfl,rfl⟩
      refine ⟨A0,?_⟩
      refine Dr 4 C (Ez (a:=B) (b:=bitB (k3:Int)) C C) (Dr 5 C (Ab fld208_0 C) (Dg kr ?_))
      refine Ae 6 C (Ed ty175) ?_
      rintro _ _ ⟨rfl,rfl⟩
      refine Dh kr ?_
      exact Ak (Aj (Aq (S9 2 3 4 9 16 18 19 143 144 C C C C C C C C C) (Ax (Gr (Rad C C) (Gm C (Bd (B2 ((k3+1),(B ||| (bitB (k3:Int)))) (by dsimp only;exact ⟨om,(by first|exact or_yes (p:=λv=>e_ side (2+v)=true) om hB6 c162|exact or_no (p:=λv=>e_ side (2+v)=true) hB6 (by rw [c162];simp))⟩))))))))
     ·exact Ay (Ak (Aj (Ax (Gr (Rad C C) (Gm C (Bd (B2 ((k3+1),(B)) (by dsimp only;exact ⟨om,(by first|exact or_yes (p:=λv=>e_ side (2+v)=true) om hB6 c162|exact or_no (p:=λv=>e_ side (2+v)=true) hB6 (by rw [c162];simp))⟩))))))))
    ·exact absurd (bit_all (u:=(k3:Int)) om om om) g156
   ·refine Bs (Ap (Ap (A7 (Aj (Au (Ah (Gf fld211_0 C (Gl ty46 ?_))))))))
    refine Gr (Bx (α:=Pt) (xs:=es) Bo C (Bh hl)) (Gm C (Af (Aq (S8 173 172 2 3 4 9 16 19 C C C C C C C C) (A4 (Bu (σ:=Nat×(Option Addr)×Nat×(List Int)) (λs=>([(2,.pointer (some ⟨b1,0,none⟩)),(3,.pointer (some ⟨b2,0,none⟩)),(4,.pointer (some ⟨b3,0,none⟩)),(9,.slice ad9 (replicate es.length (default:Pt)).length cp10),(16,.slice ad16 fl.length cp17),(19,.pointer (some ⟨b20,0,none⟩)),(172,e7 ((es.length:Nat):Int)),(173,e7 ((s.1:Nat):Int))]:Env)) (λs=>vc 3 (.slice s.2.1 s.2.2.2.length s.2.2.1) (s.2.2.2)::e8 b20 [U64 B,.slice s.2.1 s.2.2.2.length s.2.2.1] 208::vc 4 (.slice ad18 side.length cp19) (side)::vc 3 (.slice ad16 fl.length cp17) (fl)::e8 b4 [e7 (2+nd+((es.length:Nat):Int)),e7 0,e7 1,.slice a2 (denseArcs nd nu de es).length c2] 303::vc 305 (.slice a2 (denseArcs nd nu de es).length c2) ((denseArcs nd nu de es))::vc 64 (.slice ad9 (replicate es.length (default:Pt)).length cp10) (fs)::e8 b3 [.int .u64 0,.slice none 0 0] 208::e8 b2 [e7 nu,e7 de] 40::e8 b1 [ve,vw,vb,vk,U64 (allB nd),U64 (0#64)] 211::I) (λs=>(s.1<=es.length)/\(s.2.2.2.length=s.1)) (λs=>es.length - s.1) (0,none,0,[]) (show ((0:Nat)<=es.length)/\(([]:List Int).length=(0:Nat)) from ⟨om,rfl⟩) (Aa C (Aa C (Aa C (Aa C (Aa C (Aa C (Aa C (Aa B9 Bj)))))))) (show Fit κ _ (vc 3 (.slice none ([]).length 0) (([]))::e8 b20 [U64 B,.slice none ([]).length 0] 208::vc 4 (.slice ad18 side.length cp19) (side)::vc 3 (.slice ad16 fl.length cp17) (fl)::e8 b4 [e7 (2+nd+((es.length:Nat):Int)),e7 0,e7 1,.slice a2 (denseArcs nd nu de es).length c2] 303::vc 305 (.slice a2 (denseArcs nd nu de es).length c2) ((denseArcs nd nu de es))::vc 64 (.slice ad9 (replicate es.length (default:Pt)).length cp10) (fs)::e8 b3 [.int .u64 0,.slice none 0 0] 208::e8 b2 [e7 nu,e7 de] 40::e8 b1 [ve,vw,vb,vk,U64 (allB nd),U64 (0#64)] 211::I) from (Bt _ _)) ?_)))))
    rintro ⟨k4,pa,pc,parts⟩ hp
    dsimp only at hp ⊢
    obtain ⟨hk4,hpl⟩:=hp
    have hfu:k4<es.length->(e_ fs k4).u<fl.length/\(e_ fs k4).v<fl.length:=λh=>by rw [hfs k4 om];exact ⟨by show 2*nd+3*(k4:Int)+1<_;omega,by show 2*nd+3*(k4:Int)+1+1<_;omega⟩
    refine Ah (Gr (A9 C C) (Af (Au (A6 C (λc174=>?_) (λc174=>?_)))))
    ·refine Ay (Aj (Au (A4 (Ah (Gm C (Ga C (Af (Bl mixed (Br (e8 b20 [U64 B,.slice pa parts.length pc] 208::vc 4 (.slice ad18 side.length cp19) (side)::vc 3 (.slice ad16 fl.length cp17) (fl)::e8 b4 [e7 (2+nd+((es.length:Nat):Int)),e7 0,e7 1,.slice a2 (denseArcs nd nu de es).length c2] 303::vc 305 (.slice a2 (denseArcs nd nu de es).length c2) ((denseArcs nd nu de es))::vc 64 (.slice ad9 (replicate es.length (default:Pt)).length cp10) (fs)::e8 b3 [.int .u64 0,.slice none 0 0] 208::e8 b2 [e7 nu,e7 de] 40::e8 b1 [ve,vw,vb,vk,U64 (allB nd),U64 (0#64)] 211::I) 21 (Dr 0 C (Ab fld208_1 C) (Dr 1 C (As ty22) ?_)))))))))))
     refine Dr 2 C (Bq (vs:=[_,_,_,_,_,_]) ty211) ?_
     refine Dr 3 C (Ad C) (Dr 4 C (Ad C) (Dr 5 C (Ad C) (Dr 6 C (A3 (α:=Pt) (xs:=fs) C3 ty64 C C Bg om oo) (Dr 7 C (Bp (α:=Pt) (xs:=fs) ty64 C Bg om oo) ?_))))
     have hfu2:=hfu om
     refine Dr 8 C (Ad C) (Dr 9 C (Ab fld211_1 C) (Dr 10 C (As ty22) ?_))
     refine Dr 11 C (Ad C) (Dr 12 C (A3 (α:=Int) (xs:=ws) Ac ef C C (Bh hw) om oo) (Dr 13 C (Bz (xs:=ws) ef C (Bh hw) om oo) ?_))
     rw [hP.w1 k4 om]
     refine Dr 14 C (Ab fld40_1 C) (Dr 15 C (As ef) ?_)
     refine Dr 16 C (E0 C C (by unfold InR;omega)) ?_
     rw [Int.one_mul]
     refine Ds1 17 (Se C (Ao call283 C C (Part_ok Bg hfu2.1 hfu2.2 (flow_small hN hD4 hB.flow) hD4)) ?_)
     rintro _ _ ⟨_,_,⟨px,rfl,rfl⟩,rfl,rfl⟩
     refine ⟨A5,?_⟩
     refine Ds1 18 (Se1 C (B0 (α:=Int) (cs:=[_]) (xs:=[px]) Ac ef C C dc dc C C C C) λad21=>?_)
     refine Ds1 19 (Se2 C (B1 (α:=Int) (e:=3) (xs:=parts) (ys:=([px]:List Int)) Ac ef C C C mm Bg lcn dc C (λ_ _=>am)) λad22 cp23=>?_)
     refine Dr 20 C (Ab fld208_1 C) (Dg kr ?_)
     refine Ae 21 C (Ed ty22) ?_
     rintro _ _ ⟨rfl,rfl⟩
     refine Dh kr ?_
     exact Ak (Aj (Aq (S8 2 3 4 9 16 19 172 173 C C C C C C C C) (Ax (Gr (Rad C C) (Gm C (Bd (B2 ((k4+1),(ad22),(cp23),(parts++([px]:List Int))) (by dsimp only;exact ⟨om,lap⟩))))))))
    ·refine Bs (Ap (Ap (A7 (Aj (Ah (Gl2 ty208 ?_))))))
     refine Ge0 (Cd ty208) ?_
     exact Af (Aw (Db C ty208 C mm C (vc 3 (.slice pa parts.length pc) parts::I) B4 ⟨B,pa,pc,parts,rfl,solve_of hG hm hN hD4 hB om hB6,by omega,rfl⟩))
end Go.Sl
