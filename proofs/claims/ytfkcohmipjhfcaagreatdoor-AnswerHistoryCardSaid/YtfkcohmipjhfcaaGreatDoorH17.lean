/- A part of the proofs of statements of this seat: contracts of functions, and the plain laws that they lean on. No conditions. -/
import Derived.Test.YtfkcohmipjhfcaaGreatDoorH16
set_option linter.unusedVariables false
set_option linter.unusedSimpArgs false
set_option linter.unusedSectionVars false
namespace Go.Sl
open Go.Proofs
set_option maxRecDepth 4000
structure BothP (n:Net) (f:List Int) (side:List Bool):Prop where
 flow:IsFlow n f
 len:(side.length:Int)=n.nodes
 great:∃T,Great n f T∧∀z:Int,0≤z→z<n.nodes→at_ side z=T z
set_option maxHeartbeats 1000000 in
theorem Both_ok{κ:Ctx}{I:List Item}{n:Net}{v:Value}(hl:Sl κ I v n.arcs)(hok:n.Ok) :
    CallS Tryz.prog κ 282 [.agg #[I64 (n.nodes),I64 (n.source),I64 (n.sink),v]] I (fun r J=>∃a c f a' c' side val,r = .tuple #[.slice a f.length c,I64 val,.slice a' side.length c']∧BothP n f side∧J=vc 4 (.slice a' side.length c') side::vc 3 (.slice a f.length c) f::I):=by
 have hlim:=hok.lim
 have hsnk:=hok.snk
 have hsrc:=hok.src
 refine Ce1 Tryz.func282 rfl rfl ?_
 refine Ai (Ge1 (Bd (cs:=[_,_,_,_]) rfl rfl rfl) fun b1=>Ga rfl (Ga rfl (Ga rfl (Af (Ai (Gl4 ty303 ?_))))))
 refine G.e (Ap call317 rfl rfl (Solved_ok (n:=n) (Bj hl) hok)) ?_
 rintro _ _ ⟨_,_,⟨b,hw,ow,lw,nw,f,hs,rs,L,nx,val,rfl,⟨hfull,hh,hr⟩,rfl⟩,rfl,rfl⟩
 refine G.fit (J:=blk b [hw,ow,lw,nw,I64 (n.sink)] 339::vc 336 (hw) (hs)::vc 3 (lw) (L)::vc 3 (nw) (nx)::vc 22 (ow) (rs)::blk b1 [I64 (n.nodes),I64 (n.source),I64 (n.sink),v] 303::(rowsI rs++I)) Bt ?_
 refine Gm rfl (Gr (A2 rfl rfl) (Gr (A2 rfl rfl) (Ga rfl (Ga rfl (Af (Au (Ai (Gf fld303_3 rfl ?_))))))))
 have hff:=hfull.flow.len
 have hhl:=hh.len
 refine Gl ty301 ?_
 refine Gr (Bx (α:=Arc) (xs:=n.arcs) Dj rfl (Bj hl)) (Gm rfl (Af (Ar (S7 17 16 15 3 5 2 1 rfl rfl rfl rfl rfl rfl rfl) (A4 (Bv (σ:=Nat×(Option Addr)×Nat×(List Int)) (fun s=>([(1,.pointer (some ⟨b1,0,none⟩)),(2,.slice s.2.1 s.2.2.2.length s.2.2.1),(3,I64 (val)),(5,.pointer (some ⟨b,0,none⟩)),(15,v),(16,I64 (((n.arcs.length:Nat):Int))),(17,I64 (((s.1:Nat):Int)))]:Env)) (fun s=>vc 3 (.slice s.2.1 s.2.2.2.length s.2.2.1) (s.2.2.2)::blk b [hw,ow,lw,nw,I64 (n.sink)] 339::vc 336 (hw) (hs)::vc 3 (lw) (L)::vc 3 (nw) (nx)::vc 22 (ow) (rs)::blk b1 [I64 (n.nodes),I64 (n.source),I64 (n.sink),v] 303::(rowsI rs++I)) (fun s=>(s.1≤n.arcs.length)∧(s.2.2.2=f.take s.1)) (fun s=>n.arcs.length - s.1) (0,none,0,[]) (show ((0:Nat)≤n.arcs.length)∧(([]:List Int)=f.take (0:Nat)) from ⟨om,rfl⟩) (Aa rfl (Aa (Cp rfl (by first|rfl|simp)) (Aa rfl (Aa rfl (Aa rfl (Aa rfl (Aa B8 Bg))))))) (show Fit κ _ (vc 3 (.slice (none) ([]).length (0)) (([]))::blk b [hw,ow,lw,nw,I64 (n.sink)] 339::vc 336 (hw) (hs)::vc 3 (lw) (L)::vc 3 (nw) (nx)::vc 22 (ow) (rs)::blk b1 [I64 (n.nodes),I64 (n.source),I64 (n.sink),v] 303::(rowsI rs++I)) from (Bw _ _)) ?_)))))
 rintro ⟨k,a,c,fl⟩ hp
 dsimp only at hp ⊢
 obtain ⟨hk,hfl⟩:=hp
 have hfll:fl.length=k:=by rw [hfl,List.length_take];omega
 refine Ai (Gr (A9 rfl rfl) (Af (Au (A7 rfl (fun c18=>?_) (fun c18=>?_)))))
 ·refine Aw (Aj (Au (A4 (Ai (Gm rfl (Gr (A3 (α:=Arc) (xs:=n.arcs) Dj ty305 rfl rfl (Bj hl) om oo) (Gr (Bu (α:=Arc) (xs:=n.arcs) ty305 rfl (Bj hl) om oo) (Ge1 (A8 ty305 rfl) fun b2=>Ga rfl (Ge0 (Es3_3 ty305) ?_)))))))))
  have hgt:=hh.get (2*(k:Int)) ⟨by omega,by omega⟩
  have hcap:=hfull.flow.cap k om
  have hac:=arc_at hok (k:=k) om
  have hlv:leftH n f (2*(k:Int))=(at_ n.arcs (k:Int)).cap - at_ f (k:Int):=by unfold leftH;rw [if_pos om,show (2*(k:Int)) / 2=(k:Int) from by omega]
  have hleft:(at_ n.arcs (k:Int)).cap - (at_ hs (2*(k:Int))).left=at_ f (k:Int):=by omega
  refine Af (Bk mixed (Bo (blk b2 [I64 ((at_ n.arcs (k:Int)).frm),I64 ((at_ n.arcs (k:Int)).dst),I64 ((at_ n.arcs (k:Int)).cap)] 305::blk b [hw,ow,lw,nw,I64 (n.sink)] 339::vc 336 (hw) (hs)::vc 3 (lw) (L)::vc 3 (nw) (nx)::vc 22 (ow) (rs)::blk b1 [I64 (n.nodes),I64 (n.source),I64 (n.sink),v] 303::(rowsI rs++I)) 16 (Dr 0 rfl (Ad rfl) (Dr 1 rfl (Ab fld305_2 rfl) (Dr 2 rfl (As ty3) ?_)))))
  refine Dr 3 rfl (Ad rfl) (Dr 4 rfl (Bh rfl) (Dr 5 rfl (Ab fld339_0 rfl) (Dr 6 rfl (As ty337) ?_)))
  refine Dr 7 rfl (Ad rfl) (Dr 8 rfl (E4 rfl rfl (by unfold InR;omega)) (Dr 9 rfl (A3 (α:=Half) (xs:=hs) Cb ty336 rfl rfl Bf om oo) (Dr 10 rfl (C0 (α:=Half) (xs:=hs) fld336_1 rfl Bf oo) (Dr 11 rfl (C1 (α:=Half) (xs:=hs) (u:=I64 ((at_ hs (2*(k:Int))).left)) ty3 rfl Bf om oo rfl) (Dr 12 rfl (Rsu rfl rfl) (Ds1 13 (Se1 rfl (B1 (α:=Int) (cs:=[_]) (xs:=[((at_ n.arcs (k:Int)).cap) - ((at_ hs (2*(k:Int))).left)]) Ac ty3 rfl rfl dc dc rfl rfl rfl rfl) fun ad3=>?_)))))))
  refine Ds1 14 (Se2 rfl (B0 (α:=Int) (e:=3) (xs:=fl) (ys:=([((at_ n.arcs (k:Int)).cap) - ((at_ hs (2*(k:Int))).left)]:List Int)) Ac ty3 rfl rfl rfl mm Bf lcn dc rfl (fun _ _=>am)) fun ad4 cp5=>?_)
  exact Dr 15 rfl (Ba rfl) (Dz (Ak (Aj (Ar (S7 2 1 3 5 15 16 17 rfl rfl rfl rfl rfl rfl rfl) (Az (Gr (Rad rfl rfl) (Gm rfl (Bc (B3 ((k+1),(ad4),(cp5),(fl++([((at_ n.arcs (k:Int)).cap) - ((at_ hs (2*(k:Int))).left)]:List Int))) (by dsimp only;exact ⟨om,(by rw [hfl,Cz f k om];congr 1;rw [hleft])⟩))))))))))
 ·refine Bs (Am (Am (A6 (Aj (Ai (Gm rfl ?_))))))
  have hkm:k=n.arcs.length:=by omega
  have hfe:fl=f:=by rw [hfl,hkm,←hff,List.take_length]
  refine Gf fld303_2 rfl (Gl ty3 ?_)
  refine G.e (Ap call318 rfl rfl (Cj (J:=blk b [hw,ow,lw,nw,I64 (n.sink)] 339::vc 3 (.slice a fl.length c) (fl)::vc 336 (hw) (hs)::vc 3 (lw) (L)::vc 3 (nw) (nx)::vc 22 (ow) (rs)::blk b1 [I64 (n.nodes),I64 (n.source),I64 (n.sink),v] 303::(rowsI rs++I)) Bt (Reached_ok (n:=n) (rs:=rs) (hs:=hs) hok hh Bf hr Bf (fun i h0 h=>B7 (rowsI_sl i h0 h) A0) om))) ?_
  rintro _ _ ⟨_,_,⟨ad6,cp7,seen8,rfl,hseen8,rfl⟩,rfl,rfl⟩
  show G Tryz.prog κ _ _ _ _ ([(41,.slice ad6 seen8.length cp7),(40,I64 (n.sink)),(39,.pointer (some ⟨b1,2,none⟩)),(38,.pointer (some ⟨b,0,none⟩)),(18,.bool (decide ((k:Int)<((n.arcs.length:Nat):Int)))),(1,.pointer (some ⟨b1,0,none⟩)),(2,.slice a fl.length c),(3,I64 (val)),(5,.pointer (some ⟨b,0,none⟩)),(15,v),(16,I64 (((n.arcs.length:Nat):Int))),(17,I64 ((k:Int)))]:Env) (vc 4 (.slice ad6 seen8.length cp7) (seen8)::blk b [hw,ow,lw,nw,I64 (n.sink)] 339::vc 3 (.slice a fl.length c) (fl)::vc 336 (hw) (hs)::vc 3 (lw) (L)::vc 3 (nw) (nx)::vc 22 (ow) (rs)::blk b1 [I64 (n.nodes),I64 (n.source),I64 (n.sink),v] 303::(rowsI rs++I))
  have hlenseen8:=hseen8.len
  refine Ga rfl (Af (Au (Ai (Gm rfl (Gr (Bp Db rfl) (Gm rfl (Af (Ar (S5 44 43 4 2 3 rfl rfl rfl rfl rfl) (A4 (Bv (σ:=Nat×(List Bool)) (fun s=>([(2,.slice a fl.length c),(3,I64 (val)),(4,.slice ad6 seen8.length cp7),(43,I64 (((seen8.length:Nat):Int))),(44,I64 (((s.1:Nat):Int)))]:Env)) (fun s=>vc 4 (.slice ad6 seen8.length cp7) (s.2)::blk b [hw,ow,lw,nw,I64 (n.sink)] 339::vc 3 (.slice a fl.length c) (fl)::vc 336 (hw) (hs)::vc 3 (lw) (L)::vc 3 (nw) (nx)::vc 22 (ow) (rs)::blk b1 [I64 (n.nodes),I64 (n.source),I64 (n.sink),v] 303::(rowsI rs++I)) (fun s=>(s.1≤seen8.length)∧(s.2.length=seen8.length)∧(∀i:Nat,i<seen8.length→at_ s.2 (i:Int)=if i<s.1 then !at_ seen8 (i:Int) else at_ seen8 (i:Int))) (fun s=>seen8.length - s.1) (0,seen8) (show ((0:Nat)≤seen8.length)∧((seen8:List Bool).length=seen8.length)∧(∀i:Nat,i<seen8.length→at_ (seen8:List Bool) (i:Int)=if i<(0:Nat) then !at_ seen8 (i:Int) else at_ seen8 (i:Int)) from ⟨om,rfl,(fun i h=>by rw [if_neg om])⟩) (Aa rfl (Aa rfl (Aa rfl (Aa rfl (Aa B8 Bg))))) (show Fit κ _ (vc 4 (.slice ad6 seen8.length cp7) ((seen8))::blk b [hw,ow,lw,nw,I64 (n.sink)] 339::vc 3 (.slice a fl.length c) (fl)::vc 336 (hw) (hs)::vc 3 (lw) (L)::vc 3 (nw) (nx)::vc 22 (ow) (rs)::blk b1 [I64 (n.nodes),I64 (n.source),I64 (n.sink),v] 303::(rowsI rs++I)) from A5) ?_))))))))))
  rintro ⟨k,sd⟩ hp
  dsimp only at hp ⊢
  obtain ⟨hk,hsl,hsd⟩:=hp
  refine Ai (Gr (A9 rfl rfl) (Af (Au (A7 rfl (fun c45=>?_) (fun c45=>?_)))))
  ·refine Aw (Aj (Au (A4 (Ai (Gm rfl (Ga rfl (Af (Az (Gm rfl (Gm rfl (Gm rfl (Gm rfl (Gr (A3 (α:=Bool) (xs:=sd) Db ty4 rfl rfl Bf om oo) (Gr (Runs.getB (xs:=sd) ty4 rfl Bf om oo) (Gr (Cu rfl) (Gr (A3 (α:=Bool) (xs:=sd) Db ty4 rfl rfl Bf om oo) (Ge0 (C6 (α:=Bool) (xs:=sd) (e:=4) (new:= !at_ sd (k:Int)) ty4 rfl rfl rfl om oo am) ?_)))))))))))))))))
   exact Bc (Ak (Aj (Ar (S5 2 3 4 43 44 rfl rfl rfl rfl rfl) (Az (Gr (Rad rfl rfl) (Gm rfl (Bc (B3 ((k+1),(List.set sd ((k:Int)).toNat (!at_ sd (k:Int)))) (by dsimp only;exact ⟨om,(by rw [List.length_set];exact hsl),(fun i h=>by rw [Dl _ _ _ _ om om om];by_cases e:i=k;(· subst e;rw [if_pos rfl,if_pos om,hsd i h,if_neg om]);(· rw [if_neg om,hsd i h];by_cases h2:i<k;(· rw [if_pos h2,if_pos om]);(· rw [if_neg h2,if_neg om])))⟩)))))))))
  ·refine Bs (Am (Am (A6 (Aj (Ai (Gm rfl (Gm rfl (Gm rfl (Ga rfl (Ga rfl (Ga rfl (Af (Ax ?_)))))))))))))
   subst hfe
   exact V.ret3 rfl rfl rfl rfl (vc 4 (.slice ad6 sd.length cp7) sd::vc 3 (.slice a fl.length c) fl::I) (by rw [hsl];exact Bt) ⟨a,c,fl,ad6,cp7,sd,val,by rw [hsl],⟨hfull.flow,by omega,_,hseen8.great hok hfull,fun z h0 h1=>by obtain ⟨i,rfl⟩:∃i:Nat,z=(i:Int):=⟨z.toNat,om⟩;rw [hsd i om,if_pos om]⟩,rfl⟩
def setP2(p:Pt)(j:Int)(n:Int):Pt:=if j=0 then {p with u:=n} else {p with v:=n}
section
variable {P:Program}{κ:Ctx}{N:Frm}{Q:Exit→Act→World→Prop}{L:Env}{I J:List Item}
variable {d:Option Tmp}{ty:TypeId}{ps:String}{af:Array Edge}{gd:Option (Nat×Bool)}
theorem Runs.index2{x y:Operand}{T:TypeId}{u v j:Int}(h0:∀w:World,(Instr.index T (.agg #[I64 u,I64 v]) (I64 0)).run P w = .ok (I64 u) w)(h1:∀w:World,(Instr.index T (.agg #[I64 u,I64 v]) (I64 1)).run P w = .ok (I64 v) w)
  (hx:evalO L x=some (.agg #[I64 u,I64 v])) (hy:evalO L y=some (I64 j)) (hj:j=0∨j=1):Runs P κ N ⟨d,.index T x y,ty,ps,af,gd⟩ L J (I64 (if j=0 then u else v)):=fun a w ha hs=>by
 rcases hj with rfl|rfl
 ·simp [execOp,ha.eval hx,ha.eval hy,h0]
 ·simp [execOp,ha.eval hx,ha.eval hy,h1]
theorem Runs.idxsV(α:Type)[Enc α]{x y:Operand}{T E by' n c:Nat}{ag:Bool}{z:List Value}{ad:Option Addr}{i:Int}(ht:P.underlying T=some (.slice E))(hE:tyF P E=some (Enc.sz α,ag,by',z))(hx:evalO L x=some (.slice ad n c))
  (hy:evalO L y=some (I64 i)) (ha:ad≠none) (h0:0≤i) (hn:i<n):Runs P κ N ⟨d,.indexAddr T x y,ty,ps,af,gd⟩ L J (elemPtr (.slice ad n c) (i.toNat*Enc.sz α)):=by
 cases ad with
 |none=>exact absurd rfl ha
 |some ad=>exact fun a w ha hs=>by simp [execOp,ha.eval hx,ha.eval hy,Instr.indexAt,asIntOf,run_underlying ht,h0,hn,run_sizeOf hE,elemPtr]
theorem Runs.idxElF{x y:Operand}{T E n sz m by' n' c:Nat}{ag:Bool}{z:List Value}{ad:Option Addr}{i:Int}(ht:P.underlying T=some (.array n E))(hE:tyF P E=some (sz,ag,by',z))(hx:evalO L x=some (elemPtr (.slice ad n' c) m))
  (hy:evalO L y=some (I64 i)) (ha:ad≠none) (h0:0≤i) (hn:i<n):Runs P κ N ⟨d,.indexAddr T x y,ty,ps,af,gd⟩ L J (elemPtr (.slice ad n' c) (m+i.toNat*sz)):=by
 cases ad with
 |none=>exact absurd rfl ha
 |some ad=>
  have e:(ad.add m).add (i.toNat*sz)=ad.add (m+i.toNat*sz):=by
   generalize i.toNat*sz=q
   unfold Addr.add
   by_cases h1:m=0<;>by_cases h2:q=0<;>simp [h1,h2,Nat.add_assoc]
  exact fun a w ha hs=>by simp [execOp,ha.eval hx,ha.eval hy,elemPtr,Instr.indexAt,asIntOf,run_underlying ht,h0,hn,run_sizeOf hE,Instr.sureAddr,e]
theorem Eff.setP2{xs:List Pt}{x y:Operand}{T by' e:Nat}{z:List Value}{v:Value}{i j n:Int}{I':List Item}(hT:tyF P T=some (1,false,by',z))(hx:evalO L x=some (elemPtr v (i.toNat*Enc.sz Pt+j.toNat*1)))(hy:evalO L y=some (I64 n))(hj:j=0∨j=1)
  (h0:0≤i) (hn:i<xs.length) (hat:At I (vc e v xs) (vc e v (xs.set i.toNat (setP2 (at_ xs i) j n))) I'):Eff P κ N Q ⟨none,.store T x y,ty,ps,af,gd⟩ L I fun L' I''=>L'=L∧I''=I':=by
 rcases hj with rfl|rfl
 ·exact Eff.setf (α:=Pt) (xs:=xs) (e:=e) (new:={at_ xs i with u:=n}) (j:=0) hT hx hy rfl rfl dc rfl h0 hn hat
 ·exact Eff.setf (α:=Pt) (xs:=xs) (e:=e) (new:={at_ xs i with v:=n}) (j:=1) hT hx hy rfl rfl dc rfl h0 hn hat
theorem Eff.setC2{x y:Operand}{T sz by' b E:Nat}{ag:Bool}{z:List Value}{p q j n:Int}{I':List Item}(hT:tyF P T=some (sz,ag,by',z))(hs1:sz=1)(hx:evalO L x=some (.pointer (some ⟨b,0+j.toNat*1,none⟩)))(hy:evalO L y=some (I64 n))(hj:j=0∨j=1)
  (hat:At I (blk b [I64 p,I64 q] E) (blk b [I64 (if j=0 then n else p),I64 (if j=0 then q else n)] E) I'):Eff P κ N Q ⟨none,.store T x y,ty,ps,af,gd⟩ L I fun L' I''=>L'=L∧I''=I':=by
 rcases hj with rfl|rfl
 ·exact Eff.store (vs:=[I64 n]) hT hx hy rfl (by rw [hs1];rfl) (fun u hu=>by rw [List.mem_singleton] at hu;subst hu;rfl) (by simp) rfl hat
 ·exact Eff.store (vs:=[I64 n]) hT hx hy rfl (by rw [hs1];rfl) (fun u hu=>by rw [List.mem_singleton] at hu;subst hu;rfl) (by simp) rfl hat
end
theorem ix2a(u v:Int)(w:World):(Instr.index 64 (.agg #[I64 u,I64 v]) (I64 0)).run Tryz.prog w = .ok (I64 u) w:=by kernel_rfl
theorem ix2b(u v:Int)(w:World):(Instr.index 64 (.agg #[I64 u,I64 v]) (I64 1)).run Tryz.prog w = .ok (I64 v) w:=by kernel_rfl
structure PlainP (nd:Int) (es:List Pt) (ws bs cs:List Int):Prop where
 wl:ws.length=es.length
 w1:∀i:Nat,i<es.length→at_ ws (i:Int)=1
 bl:bs.length=nd.toNat
 b0:∀i:Int,0≤i→i<nd→at_ bs i=0
 cl:cs.length=nd.toNat
 c1:∀i:Int,0≤i→i<nd→at_ cs i=1
theorem bit_mem{W:BitVec 64}{u:Int}(h0:0≤u)(h1:u<64):W &&& bitB u≠0#64↔W.getLsbD u.toNat=true:=by
 have hb:bitB u=0#64 ||| 1#64 <<< u.toNat:=by rw [BitVec.zero_or];exact bit_sh h0 h1
 rw [hb]
 constructor
 ·intro h
  obtain ⟨x,hx⟩:=nz_listB.1 h
  rw [mem_andB,mem_orbit h0 h1,C2] at hx
  rcases hx.2 with h2|h2
  ·cases h2
  ·rw [←h2];exact (mem_listB.1 hx.1).2
 ·intro h
  exact nz_listB.2 ⟨u,mem_andB.2 ⟨mem_listB.2 ⟨h0,h⟩,(mem_orbit h0 h1).2 (.inr rfl)⟩⟩
theorem bit_all{u nd:Int}(h0:0≤u)(h1:u<nd)(h2:nd≤64):(bitB u &&& allB nd) &&& ~~~0#64≠0#64:=by
 rw [BitVec.not_zero,BitVec.and_allOnes,BitVec.and_comm]
 exact (bit_mem h0 om).2 (by rw [getLsb_allB om h2 om,decide_eq_true_eq];omega)
theorem insE_yes{W:BitVec 64}{es:List Pt}{k:Nat}(hk:k<es.length)(hr:(0≤(at_ es (k:Int)).u∧(at_ es (k:Int)).u<64)∧0≤(at_ es (k:Int)).v∧(at_ es (k:Int)).v<64)(h1:W &&& bitB (at_ es (k:Int)).u≠0#64)(h2:W &&& bitB (at_ es (k:Int)).v≠0#64):insE W (es.take (k+1))=insE W (es.take k)+1:=by
 rw [insE_take hk,(bit_mem hr.1.1 hr.1.2).1 h1,(bit_mem hr.2.1 hr.2.2).1 h2];rfl
theorem insE_no{W:BitVec 64}{es:List Pt}{k:Nat}(hk:k<es.length)(hr:(0≤(at_ es (k:Int)).u∧(at_ es (k:Int)).u<64)∧0≤(at_ es (k:Int)).v∧(at_ es (k:Int)).v<64)(h:¬W &&& bitB (at_ es (k:Int)).u≠0#64∨¬W &&& bitB (at_ es (k:Int)).v≠0#64):insE W (es.take (k+1))=insE W (es.take k):=by
 rw [insE_take hk]
 rcases h with h|h
 ·rw [bit_mem hr.1.1 hr.1.2,Bool.not_eq_true] at h
  rw [h];simp
 ·rw [bit_mem hr.2.1 hr.2.2,Bool.not_eq_true] at h
  rw [h];simp
theorem flat_succ{α:Type}(f:Nat→List α)(k:Nat):(List.range (k+1)).flatMap f=(List.range k).flatMap f++f k:=by
 rw [List.range_succ,List.flatMap_append];simp
theorem Gain_ok{κ:Ctx}{I:List Item}{nd:Int}{ve vw vb vk:Value}{al:BitVec 64}{es:List Pt}{ws bs cs:List Int}(hl:Sl κ I ve es)(hw:Sl κ I vw ws)(hb:Sl κ I vb bs)(hkc:Sl κ I vk cs)(hG:GrOk nd es)(hm:es.length≤2016)(hP:PlainP nd es ws bs cs)(wb:BitVec 64)(hW:subN nd wb)(hT:TabRd κ I 0 tzCells) :
    CallS Tryz.prog κ 232 [.agg #[ve,vw,vb,vk,U64 (al),U64 (0#64)],U64 (wb)] I (fun r J=>r = .tuple #[I64 (insE wb es),I64 (cntB wb)]∧I=J):=by
 have hrng:=hG.rng
 have hwl:=hP.wl
 have hbl:=hP.bl
 have hcl:=hP.cl
 refine Ce2 Tryz.func232 rfl rfl ?_
 refine Ai (Ge1 (Bd (cs:=[_,_,_,_,_,_]) rfl rfl rfl) fun b1=>Ga rfl (Ga rfl (Af (Au (Ai (Gf fld211_0 rfl (Gl ty46 ?_)))))))
 refine Gr (Bx (α:=Pt) (xs:=es) B2 rfl (Bj hl)) (Gm rfl (Af (A4 (Bv (σ:=Nat) (fun s=>([(1,U64 (wb)),(2,.pointer (some ⟨b1,0,none⟩)),(4,I64 (insE wb (es.take s))),(5,I64 (0)),(11,ve),(12,I64 (((es.length:Nat):Int))),(13,I64 (((s:Nat):Int)))]:Env)) (fun s=>blk b1 [ve,vw,vb,vk,U64 (al),U64 (0#64)] 211::I) (fun s=>(s≤es.length)) (fun s=>es.length - s) (0) (show ((0:Nat)≤es.length) from om) (Aa rfl (Aa rfl (Aa (D8 rfl (by first|omega|(dsimp only<;>omega)|exact insE_yes hk2 her2 g24 c31|exact (insE_yes hk2 her2 g24 c31).symm|exact insE_no hk2 her2 (.inl g24)|exact insE_no hk2 her2 (.inr c31)|exact (insE_no hk2 her2 (.inl g24)).symm|exact (insE_no hk2 her2 (.inr c31)).symm|rfl)) (Aa rfl (Aa rfl (Aa rfl (Aa (D8 rfl (by first|omega|(dsimp only<;>omega)|exact insE_yes hk2 her2 g24 c31|exact (insE_yes hk2 her2 g24 c31).symm|exact insE_no hk2 her2 (.inl g24)|exact insE_no hk2 her2 (.inr c31)|exact (insE_no hk2 her2 (.inl g24)).symm|exact (insE_no hk2 her2 (.inr c31)).symm|rfl)) Bg))))))) (show Fit κ _ (blk b1 [ve,vw,vb,vk,U64 (al),U64 (0#64)] 211::I) from A5) ?_))))
 rintro k hp
 have hk:=hp
 have hib:=insE_bd wb (es.take k)
 have htl:(es.take k).length≤k:=by rw [List.length_take];omega
 refine Ai (Gr (A9 rfl rfl) (Af (Au (A7 rfl (fun c14=>?_) (fun c14=>?_)))))
 ·refine Aw (Aj (Au (A4 (Ai (Gm rfl (Gr (A3 (α:=Pt) (xs:=es) B2 ty135 rfl rfl (Bj hl) om om) ?_))))))
  have hk2:k<es.length:=by omega
  have hed:=hG.edge (at_ es (k:Int)) (Cf om om)
  have her2:(0≤(at_ es (k:Int)).u∧(at_ es (k:Int)).u<64)∧0≤(at_ es (k:Int)).v∧(at_ es (k:Int)).v<64:=by omega
  refine Gr (Bu (α:=Pt) (xs:=es) ty135 rfl (Bj hl) om om) (Ge1 (A8 ty135 rfl) fun b2=>Ga rfl (Ge0 (Ce ty135) ?_))
  refine Af (Ai (Gm rfl (Gf fld135_0 rfl (Gl ty3 ?_))))
  refine G.e (Ap call237 rfl rfl (Bit_ok ((at_ es (k:Int)).u))) ?_
  rintro _ _ ⟨_,_,⟨rfl,rfl⟩,rfl,rfl⟩
  refine Gr (C5 (a:=wb) (b:=bitB ((at_ es (k:Int)).u)) rfl rfl) (Gr (Runs.neB (a:=wb &&& (bitB ((at_ es (k:Int)).u))) (b:=0#64) rfl rfl) (Gm rfl (Bb (d:=24) rfl (fun g24=>?_) (fun g24=>?_))))
  ·refine Gro (Ad rfl) (Gro (Ab fld135_1 rfl) (Gro (As ty3) ?_))
   refine Eo (Cv rfl rfl rfl) (Ap call237 rfl rfl (Bit_ok ((at_ es (k:Int)).v))) ?_
   rintro _ _ ⟨_,_,⟨rfl,rfl⟩,rfl,rfl⟩
   refine Gro (C5 (a:=wb) (b:=bitB ((at_ es (k:Int)).v)) rfl rfl) (Gro (Runs.neB (a:=wb &&& (bitB ((at_ es (k:Int)).v))) (b:=0#64) rfl rfl) (Gr (Ao rfl rfl) (Af (Ar (S9 31 6 1 2 4 5 11 12 13 rfl rfl rfl rfl rfl rfl rfl rfl rfl) (A7 rfl (fun c31=>?_) (fun c31=>?_))))))
   ·refine Az (Gm rfl (Gf fld211_1 rfl (Gl ty22 ?_)))
    refine Gm rfl (Gr (A3 (α:=Int) (xs:=ws) Ac ty3 rfl rfl (Bj hw) om om) (Gr (Br (xs:=ws) ty3 rfl (Bj hw) om om) ?_))
    rw [hP.w1 k hk2]
    exact Gr (Rad rfl rfl) (Ga rfl (Bc (Ak (Aj (Ar (S7 4 1 2 5 11 12 13 rfl rfl rfl rfl rfl rfl rfl) (Az (Gr (Rad rfl rfl) (Gm rfl (Bc (B3 ((k+1)) om (hL:=(Aa rfl (Aa rfl (Aa (D8 rfl (by first|omega|(dsimp only<;>omega)|exact insE_yes hk2 her2 g24 c31|exact (insE_yes hk2 her2 g24 c31).symm|exact insE_no hk2 her2 (.inl g24)|exact insE_no hk2 her2 (.inr c31)|exact (insE_no hk2 her2 (.inl g24)).symm|exact (insE_no hk2 her2 (.inr c31)).symm|rfl)) (Aa rfl (Aa rfl (Aa rfl (Aa (D8 rfl (by first|omega|(dsimp only<;>omega)|exact insE_yes hk2 her2 g24 c31|exact (insE_yes hk2 her2 g24 c31).symm|exact insE_no hk2 her2 (.inl g24)|exact insE_no hk2 her2 (.inr c31)|exact (insE_no hk2 her2 (.inl g24)).symm|exact (insE_no hk2 her2 (.inr c31)).symm|rfl)) Bg))))))))))))))))))
   ·exact Aw (Ak (Aj (Az (Gr (Rad rfl rfl) (Gm rfl (Bc (B3 ((k+1)) om (hL:=(Aa rfl (Aa rfl (Aa (D8 rfl (by first|omega|(dsimp only<;>omega)|exact insE_yes hk2 her2 g24 c31|exact (insE_yes hk2 her2 g24 c31).symm|exact insE_no hk2 her2 (.inl g24)|exact insE_no hk2 her2 (.inr c31)|exact (insE_no hk2 her2 (.inl g24)).symm|exact (insE_no hk2 her2 (.inr c31)).symm|rfl)) (Aa rfl (Aa rfl (Aa rfl (Aa (D8 rfl (by first|omega|(dsimp only<;>omega)|exact insE_yes hk2 her2 g24 c31|exact (insE_yes hk2 her2 g24 c31).symm|exact insE_no hk2 her2 (.inl g24)|exact insE_no hk2 her2 (.inr c31)|exact (insE_no hk2 her2 (.inl g24)).symm|exact (insE_no hk2 her2 (.inr c31)).symm|rfl)) Bg)))))))))))))))
  ·exact Gpo (Gpo (Gpo (Gpo (Gpo (Gpo (Gr (Al rfl rfl) (Af (Ar (S9 31 6 1 2 4 5 11 12 13 rfl rfl rfl rfl rfl rfl rfl rfl rfl) (C9 rfl (Aw (Ak (Aj (Az (Gr (Rad rfl rfl) (Gm rfl (Bc (B3 ((k+1)) om (hL:=(Aa rfl (Aa rfl (Aa (D8 rfl (by first|omega|(dsimp only<;>omega)|exact insE_yes hk2 her2 g24 c31|exact (insE_yes hk2 her2 g24 c31).symm|exact insE_no hk2 her2 (.inl g24)|exact insE_no hk2 her2 (.inr c31)|exact (insE_no hk2 her2 (.inl g24)).symm|exact (insE_no hk2 her2 (.inr c31)).symm|rfl)) (Aa rfl (Aa rfl (Aa rfl (Aa (D8 rfl (by first|omega|(dsimp only<;>omega)|exact insE_yes hk2 her2 g24 c31|exact (insE_yes hk2 her2 g24 c31).symm|exact insE_no hk2 her2 (.inl g24)|exact insE_no hk2 her2 (.inr c31)|exact (insE_no hk2 her2 (.inl g24)).symm|exact (insE_no hk2 her2 (.inr c31)).symm|rfl)) Bg)))))))))))))))))))))))))
 ·refine Bs (Am (Am (A6 (Aj (Au (Ai (Gm rfl ?_)))))))
  have hfull:es.take k=es:=List.take_of_length_le om
  rw [hfull]
  refine Gc2 (Ap call171 rfl rfl (MList_ok wb (B9 hT A0))) fun ad3 cp4=>?_
  refine Gr (Bp Ac rfl) (Gm rfl (Af (A4 (Bv (σ:=Nat) (fun s=>([(2,.pointer (some ⟨b1,0,none⟩)),(4,I64 (insE wb es)),(5,I64 (((s:Nat):Int))),(41,.slice ad3 (listB wb).length cp4),(42,I64 ((((listB wb).length:Nat):Int))),(43,I64 (((s:Nat):Int)))]:Env)) (fun s=>vc 3 (.slice ad3 (listB wb).length cp4) (listB wb)::blk b1 [ve,vw,vb,vk,U64 (al),U64 (0#64)] 211::I) (fun s=>(s≤(listB wb).length)) (fun s=>(listB wb).length - s) (0) (show ((0:Nat)≤(listB wb).length) from om) (Aa rfl (Aa rfl (Aa (D8 rfl (by first|omega|(dsimp only<;>omega)|exact insE_yes hk2 her2 g24 c31|exact (insE_yes hk2 her2 g24 c31).symm|exact insE_no hk2 her2 (.inl g24)|exact insE_no hk2 her2 (.inr c31)|exact (insE_no hk2 her2 (.inl g24)).symm|exact (insE_no hk2 her2 (.inr c31)).symm|rfl)) (Aa rfl (Aa rfl (Aa (D8 rfl (by first|omega|(dsimp only<;>omega)|exact insE_yes hk2 her2 g24 c31|exact (insE_yes hk2 her2 g24 c31).symm|exact insE_no hk2 her2 (.inl g24)|exact insE_no hk2 her2 (.inr c31)|exact (insE_no hk2 her2 (.inl g24)).symm|exact (insE_no hk2 her2 (.inr c31)).symm|rfl)) Bg)))))) (show Fit κ _ (vc 3 (.slice ad3 (listB wb).length cp4) (listB wb)::blk b1 [ve,vw,vb,vk,U64 (al),U64 (0#64)] 211::I) from A5) ?_))))
  rintro k hp
  have hk:=hp
  have hib:=insE_bd wb es
  have hll:=Ey wb
  have hvr:k<(listB wb).length→0≤(at_ (listB wb) (k:Int))∧(at_ (listB wb) (k:Int))<nd:=fun h=>by have hmm:=Cf (xs:=listB wb) (i:=(k:Int)) om om;have h1:=listB_lt hmm;have h2:=hW _ hmm;omega
  refine Ai (Gr (A9 rfl rfl) (Af (Au (A7 rfl (fun c44=>?_) (fun c44=>?_)))))
  ·refine Aw (Aj (Au (A4 (Ai (Gr (A3 (α:=Int) (xs:=listB wb) Ac ty3 rfl rfl Bf om om) (Gr (Br (xs:=listB wb) ty3 rfl Bf om om) (Ga rfl ?_)))))))
   have hv2:=hvr om
   refine Af (Ai (Gm rfl (Gf fld211_2 rfl (Gl ty22 ?_))))
   refine Gm rfl (Gr (A3 (α:=Int) (xs:=bs) Ac ty3 rfl rfl (Bj hb) om om) (Gr (Br (xs:=bs) ty3 rfl (Bj hb) om om) ?_))
   rw [hP.b0 (at_ (listB wb) (k:Int)) hv2.1 hv2.2]
   refine Gr (Rad rfl rfl) (Ga rfl (Af (Ar (S7 4 9 2 5 41 42 43 rfl rfl rfl rfl rfl rfl rfl) (Az (Gm rfl (Gf fld211_3 rfl (Gl ty22 ?_)))))))
   refine Gm rfl (Gr (A3 (α:=Int) (xs:=cs) Ac ty3 rfl rfl (Bj hkc) om om) (Gr (Br (xs:=cs) ty3 rfl (Bj hkc) om om) ?_))
   rw [hP.c1 (at_ (listB wb) (k:Int)) hv2.1 hv2.2]
   exact Gr (Rad rfl rfl) (Ga rfl (Bc (Ak (Aj (Ar (S6 5 4 2 41 42 43 rfl rfl rfl rfl rfl rfl) (Az (Gr (Rad rfl rfl) (Gm rfl (Bc (B3 ((k+1)) om (hL:=(Aa rfl (Aa (D8 rfl (by first|omega|(dsimp only<;>omega)|exact insE_yes hk2 her2 g24 c31|exact (insE_yes hk2 her2 g24 c31).symm|exact insE_no hk2 her2 (.inl g24)|exact insE_no hk2 her2 (.inr c31)|exact (insE_no hk2 her2 (.inl g24)).symm|exact (insE_no hk2 her2 (.inr c31)).symm|rfl)) (Aa (D8 rfl (by first|omega|(dsimp only<;>omega)|exact insE_yes hk2 her2 g24 c31|exact (insE_yes hk2 her2 g24 c31).symm|exact insE_no hk2 her2 (.inl g24)|exact insE_no hk2 her2 (.inr c31)|exact (insE_no hk2 her2 (.inl g24)).symm|exact (insE_no hk2 her2 (.inr c31)).symm|rfl)) (Aa rfl (Aa rfl (Aa (D8 rfl (by first|omega|(dsimp only<;>omega)|exact insE_yes hk2 her2 g24 c31|exact (insE_yes hk2 her2 g24 c31).symm|exact insE_no hk2 her2 (.inl g24)|exact insE_no hk2 her2 (.inr c31)|exact (insE_no hk2 her2 (.inl g24)).symm|exact (insE_no hk2 her2 (.inr c31)).symm|rfl)) Bg)))))))))))))))))
  ·refine Bs (Am (Am (A6 (Aj (Ai (Gm rfl (Gm rfl (Ga rfl (Ga rfl (Af (Ax ?_)))))))))))
   have hkk:(k:Int)=cntB wb:=by unfold cntB;omega
   exact Cl rfl rfl rfl (I) A0 ⟨by rw [hkk],rfl⟩
theorem Arc_ok{κ:Ctx}{I:List Item}{b:Nat}{nn:Int}{a:Option Addr}{c:Nat}{arcs:List Arc}(f t m:Int)(hlen:arcs.length≤100000) :
    CallS Tryz.prog κ 281 [I64 (f),I64 (t),I64 (m),.pointer (some ⟨b,0,none⟩)] (blk b [I64 (nn),I64 (0),I64 (1),.slice a arcs.length c] 303::vc 305 (.slice a arcs.length c) (arcs)::I) (fun r J=>∃a2 c2,r=I64 ((arcs.length:Nat):Int)∧J=blk b [I64 nn,I64 0,I64 1,.slice a2 (arcs++[(⟨f,t,m⟩:Arc)]).length c2] 303::vc 305 (.slice a2 (arcs++[(⟨f,t,m⟩:Arc)]).length c2) (arcs++[(⟨f,t,m⟩:Arc)])::I):=by
 refine Ce4 Tryz.func281 rfl rfl ?_
 refine Ai (Ga rfl (Af (Ai (Gf fld303_3 rfl (Gl ty301 ?_)))))
 refine Gm rfl (Gm rfl (Gm rfl (Gr (Bl (cells:=[_,_,_]) ty305 Tryz.underlying305 pl305 rfl rfl) (Ge1 (B1 (α:=Arc) (cs:=[_,_,_]) (xs:=[⟨f,t,m⟩]) Dj ty305 rfl rfl dc dc rfl rfl rfl rfl) fun ad1=>?_))))
 refine Ge2 (B0 (α:=Arc) (e:=305) (xs:=arcs) (ys:=([⟨f,t,m⟩]:List Arc)) Dj ty305 rfl rfl rfl mm Bf lcn dc rfl (fun _ _=>am)) fun ad2 cp3=>?_
 refine Gf fld303_3 rfl (Ge0 (Cy (cs:=[_,_,_,_]) (vs:=[_]) (cs':=[_,_,_,_]) ty301) ?_)
 refine Af (Ar (S1 3 rfl) (Ai (Gf fld303_3 rfl (Gl ty301 ?_))))
 refine Gr (Bp Dj rfl) (Gr (Runs.sub rfl rfl (by unfold InR;simp only [List.length_append,List.length_cons,List.length_nil];omega)) (Ga rfl (Af (Ax ?_))))
 have hal:(((arcs++[(⟨f,t,m⟩:Arc)]).length:Nat):Int) - 1=((arcs.length:Nat):Int):=by simp only [List.length_append,List.length_cons,List.length_nil];omega
 exact Ay rfl rfl (blk b [I64 nn,I64 0,I64 1,.slice ad2 (arcs++[(⟨f,t,m⟩:Arc)]).length cp3] 303::vc 305 (.slice ad2 (arcs++[(⟨f,t,m⟩:Arc)]).length cp3) (arcs++[(⟨f,t,m⟩:Arc)])::I) Bt ⟨ad2,cp3,by rw [hal],rfl⟩
theorem Part_ok{κ:Ctx}{I:List Item}{ve vw vb vk vf:Value}{al:BitVec 64}{fl:List Int}{p q i total:Int}(hf:Sl κ I vf fl)(hp:p<fl.length)(hq:q<fl.length)(hb:∀x∈fl,0≤x∧x≤4096)(ht:0≤total∧total≤4096) :
    CallS Tryz.prog κ 283 [.agg #[ve,vw,vb,vk,U64 (al),U64 (0#64)],I64 (i),.agg #[I64 (p),I64 (q)],vf,I64 (total)] I (fun r J=>∃x:Int,r=I64 x∧I=J):=by
 refine Ce5 Tryz.func283 rfl rfl ?_
 refine Ai (Ge1 (Bd (cs:=[_,_,_,_,_,_]) rfl rfl rfl) fun b1=>Ge1 (Bd (cs:=[_,_]) rfl rfl rfl) fun b2=>Ga rfl (Af (Ai (Ge1 (A8 ty64 rfl) fun b3=>Af (Au (Ai (Gl2 ty64 ?_)))))))
 refine Gm rfl (Af (A4 (Bv (σ:=Nat×Int×Int) (fun s=>([(3,vf),(4,I64 (total)),(7,.pointer (some ⟨b2,0,none⟩)),(11,.pointer (some ⟨b3,0,none⟩)),(15,.agg #[I64 (p),I64 (q)]),(16,I64 (((s.1:Nat):Int)))]:Env)) (fun s=>blk b3 [I64 (s.2.1),I64 (s.2.2)] 64::blk b2 [I64 (p),I64 (q)] 64::blk b1 [ve,vw,vb,vk,U64 (al),U64 (0#64)] 211::I) (fun s=>(s.1≤2)∧(0≤s.2.1∧s.2.1≤4096)∧(0≤s.2.2∧s.2.2≤4096)) (fun s=>2 - s.1) (0,0,0) (show ((0:Nat)≤2)∧(0≤(0:Int)∧(0:Int)≤4096)∧(0≤(0:Int)∧(0:Int)≤4096) from ⟨om,om,om⟩) (Aa rfl (Aa rfl (Aa rfl (Aa rfl (Aa rfl (Aa B8 Bg)))))) (show Fit κ _ (blk b3 [I64 ((0)),I64 ((0))] 64::blk b2 [I64 (p),I64 (q)] 64::blk b1 [ve,vw,vb,vk,U64 (al),U64 (0#64)] 211::I) from A5) ?_)))
 rintro ⟨j,e0,e1⟩ hp
 dsimp only at hp ⊢
 obtain ⟨hj,he0,he1⟩:=hp
 have hpq:(if (j:Int)=0 then p else q)<fl.length:=by split<;>assumption
 refine Ai (Gr (A9 rfl rfl) (Af (Au (A7 rfl (fun c17=>?_) (fun c17=>?_)))))
 ·refine Aw (Aj (Au (A4 (Ai (Gm rfl (Gr (Runs.index2 (ix2a _ _) (ix2b _ _) rfl rfl om) (Ga rfl (Ga rfl (Af (Ai (Gm rfl (Gr (B6 rfl rfl) (Af (A7 rfl (fun c21=>?_) (fun c21=>?_)))))))))))))))
  ·refine Az (Gm rfl (Gm rfl (Gm rfl (Gr (A3 (α:=Int) (xs:=fl) Ac ty3 rfl rfl (Bj hf) om om) (Gr (Br (xs:=fl) ty3 rfl (Bj hf) om om) ?_)))))
   have hvx:=hb _ (Cf (xs:=fl) (i:=(if (j:Int)=0 then p else q)) om om)
   generalize at_ fl (if (j:Int)=0 then p else q)=xv at hvx ⊢
   refine Gr (Cn Cq ty2 rfl rfl om om) (Ge0 (Eff.setC2 (p:=e0) (q:=e1) (j:=(j:Int)) (n:=xv) ty3 rfl rfl rfl om am) ?_)
   exact Bc (Ak (Aj (Ar (S6 3 4 7 11 15 16 rfl rfl rfl rfl rfl rfl) (Az (Gr (Rad rfl rfl) (Gm rfl (Bc (B3 ((j+1),(if (j:Int)=0 then xv else e0),(if (j:Int)=0 then e1 else xv)) (by dsimp only;exact ⟨om,(by first|exact he0|(split<;>first|exact he0|exact hvx)),(by first|exact he1|(split<;>first|exact he1|exact hvx))⟩)))))))))
  ·exact Aw (Ak (Aj (Az (Gr (Rad rfl rfl) (Gm rfl (Bc (B3 ((j+1),(e0),(e1)) (by dsimp only;exact ⟨om,(by first|exact he0|(split<;>first|exact he0|exact hvx)),(by first|exact he1|(split<;>first|exact he1|exact hvx))⟩))))))))
 ·refine Bs (Am (Am (A6 (Aj (Ai (Gm rfl (Gr (Cn Cq ty2 rfl rfl om om) (Gl ty3 ?_))))))))
  refine Gr (Rsu rfl rfl) (Gr (Cn Cq ty2 rfl rfl om om) (Gl ty3 ?_))
  refine Gr (Rsu rfl rfl) (Ga rfl (Af (Ar (S3 14 7 11 rfl rfl rfl) (Au (Ai (Gr (Cn Cq ty2 rfl rfl om om) (Gl ty3 ?_)))))))
  refine Gr (B6 rfl rfl) (Gm rfl (Bb (d:=39) rfl (fun g39=>?_) (fun g39=>?_)))
  ·refine Gro (Cn Cq ty2 rfl rfl om om) (Gro (As ty3) ?_)
   refine Gro (A9 rfl rfl) (Gr (Ao rfl rfl) (Af (A7 rfl (fun c43=>?_) (fun c43=>?_))))
   ·refine Az (Ga rfl (Af (Ai (Gr (Cn Cq ty2 rfl rfl om om) (Gl ty3 ?_)))))
    exact Gm rfl (Gr (Rad rfl rfl) (Ga rfl (Af (Ar (S1 10 rfl) (Ax (Ay rfl rfl (I) A0 ⟨_,rfl,rfl⟩))))))
   ·refine Aw (Aj (Ai (Gr (Cn Cq ty2 rfl rfl om om) (Gl ty3 ?_))))
    exact Gm rfl (Gr (Rad rfl rfl) (Ga rfl (Af (Ar (S1 10 rfl) (Ax (Ay rfl rfl (I) A0 ⟨_,rfl,rfl⟩))))))
  ·refine Gpo (Gpo (Gpo (Gr (Al rfl rfl) (Af (C9 rfl (Aw (Aj (Ai (Gr (Cn Cq ty2 rfl rfl om om) (Gl ty3 ?_))))))))))
   exact Gm rfl (Gr (Rad rfl rfl) (Ga rfl (Af (Ar (S1 10 rfl) (Ax (Ay rfl rfl (I) A0 ⟨_,rfl,rfl⟩))))))
def stepP(q:Int)(j:Nat):Pt:=if j=0 then ⟨-1, -1⟩ else if j=1 then ⟨q, -1⟩ else ⟨q,q+1⟩
theorem step_first{fs fs3:List Pt}{k2 j:Nat}{q n:Int}(h:fs3=fs.set k2 (stepP q j))(hk:k2<fs.length)(hj:j<2)(hn:n=q+(j:Int)):List.set fs3 ((k2:Int)).toNat (setP2 (at_ fs3 (k2:Int)) (j:Int) n)=fs.set k2 (stepP q (j+1)):=by
 subst h hn
 rw [Int.toNat_natCast,at_setn _ _ _ _ hk,if_pos rfl,List.set_set]
 congr 1
 rcases (show j=0∨j=1 by omega) with rfl|rfl<;>simp [setP2,stepP]
theorem first_next{nd:Int}{fs fs3:List Pt}{k2 j:Nat}(h:fs3=fs.set k2 (stepP (2*nd+3*(k2:Int)+1) j))(hj:j=2)(hk:k2<fs.length)(hfs:∀i:Nat,i<k2→at_ fs (i:Int)=stepP (2*nd+3*(i:Int)+1) 2):∀i:Nat,i<k2+1→at_ fs3 (i:Int)=stepP (2*nd+3*(i:Int)+1) 2:=fun i hi=>by
 subst h hj
 rw [at_setn _ _ _ _ hk]
 by_cases e:k2=i
 ·subst e;rw [if_pos rfl]
 ·rw [if_neg e];exact hfs i om
theorem flow_small{nd N D:Int}{es:List Pt}{f:List Int}(hN:0≤N∧N≤4096)(hD:0≤D∧D≤4096)(hf:IsFlow (denseNet nd N D es) f):∀x∈f,0≤x∧x≤4096:=fun x hx=>by
 obtain ⟨i,hi,rfl⟩:=List.getElem_of_mem hx
 have hi2:i<(denseNet nd N D es).arcs.length:=by rw [←hf.len];exact hi
 have h:=hf.cap i hi2
 rw [Ds f i hi] at h
 have hm:at_ (denseArcs nd N D es) (i:Int)∈denseArcs nd N D es:=Cf om (by have:i<(denseArcs nd N D es).length:=hi2;omega)
 have hc:(at_ (denseArcs nd N D es) (i:Int)).cap≤4096:=by
  rcases mem_denseArcs.1 hm with ⟨v,hv,h⟩|⟨j,hj,h⟩
  ·simp only [nodeArcs,List.mem_cons,List.not_mem_nil,or_false] at h
   rcases h with h|h<;>rw [h]<;>simp only<;>omega
  ·simp only [edgeArcs,List.mem_cons,List.not_mem_nil,or_false] at h
   rcases h with h|h|h<;>rw [h]<;>simp only<;>omega
 have e:(denseNet nd N D es).arcs=denseArcs nd N D es:=rfl
 rw [e] at h
 omega
theorem or_yes{B:BitVec 64}{k:Nat}{p:Int→Prop}(hk:k<64)(h:∀v:Int,v∈listB B↔(0≤v∧v<(k:Int))∧p v)(hp:p (k:Int)):∀v:Int,v∈listB (B ||| bitB (k:Int))↔(0≤v∧v<((k+1:Nat):Int))∧p v:=fun v=>by
 rw [bit_sh om om]
 rw [mem_orbit om om,h v]
 constructor
 ·rintro (⟨h1,h2⟩|h1)
  ·exact ⟨by omega,h2⟩
  ·have:v=(k:Int):=by omega
   subst this;exact ⟨by omega,hp⟩
 ·rintro ⟨h1,h2⟩
  by_cases e:v=(k:Int)
  ·right;omega
  ·left;exact ⟨by omega,h2⟩
theorem or_no{B:BitVec 64}{k:Nat}{p:Int→Prop}(h:∀v:Int,v∈listB B↔(0≤v∧v<(k:Int))∧p v)(hp:¬p (k:Int)):∀v:Int,v∈listB B↔(0≤v∧v<((k+1:Nat):Int))∧p v:=fun v=>by
 rw [h v]
 constructor
 ·rintro ⟨h1,h2⟩;exact ⟨by omega,h2⟩
 ·rintro ⟨h1,h2⟩
  by_cases e:v=(k:Int)
  ·subst e;exact absurd h2 hp
  ·exact ⟨by omega,h2⟩
theorem solve_of{nd N D:Int}{es:List Pt}(hG:GrOk nd es)(hm:es.length≤2016)(hN:0≤N∧N≤4096)(hD:0≤D∧D≤4096){f:List Int}{side:List Bool}(hB:BothP (denseNet nd N D es) f side){B:BitVec 64}{k:Nat}(hk:k=nd.toNat)
  (h:∀v:Int,v∈listB B↔(0≤v∧v<(k:Int))∧at_ side (2+v)=true):SolveP nd N D es B:=by
 obtain ⟨T,hT1,hT2⟩:=hB.great
 have hr:=hG.rng
 refine great_solve hG hm om om hB.flow hT1 fun v=>?_
 rw [h v]
 constructor
 ·rintro ⟨h1,h2⟩
  rw [hT2 (2+v) om (by show 2+v<2+nd+(es.length:Int);omega)] at h2
  exact ⟨by omega,h2⟩
 ·rintro ⟨h1,h2⟩
  refine ⟨by omega,?_⟩
  rw [hT2 (2+v) om (by show 2+v<2+nd+(es.length:Int);omega)]
  exact h2
set_option maxHeartbeats 4000000 in
theorem Solve_ok{κ:Ctx}{I:List Item}{nd:Int}{ve vw vb vk:Value}{es:List Pt}{ws bs cs:List Int}(hl:Sl κ I ve es)(hw:Sl κ I vw ws)(hb:Sl κ I vb bs)(hkc:Sl κ I vk cs)(hG:GrOk nd es)(hm:es.length≤2016)(hP:PlainP nd es ws bs cs){nu de:Int}(hN:0≤nu∧nu≤4096)(hD:1≤de∧de≤64) :
    CallS Tryz.prog κ 233 [.agg #[ve,vw,vb,vk,U64 (allB nd),U64 (0#64)],.agg #[I64 (nu),I64 (de)]] I (fun r J=>∃B a c parts,r = .agg #[U64 B,.slice a (parts:List Int).length c]∧SolveP nd nu de es B∧parts.length=es.length∧J=vc 3 (.slice a parts.length c) parts::I):=by
 have hrng:=hG.rng
 have hwl:=hP.wl
 have hbl:=hP.bl
 have hcl:=hP.cl
 have hD4:0≤de∧de≤4096:=by omega
 refine Ce2 Tryz.func233 rfl rfl ?_
 refine Ai (Ge1 (Bd (cs:=[_,_,_,_,_,_]) rfl rfl rfl) fun b1=>Ge1 (Bd (cs:=[_,_]) rfl rfl rfl) fun b2=>Ge1 (A8 ty208 rfl) fun b3=>Af (Ai (Gf fld211_3 rfl (Gl ty22 ?_))))
 refine Gr (Bx (α:=Int) (xs:=cs) Ac rfl (Bj hkc)) (Gr (Rad rfl rfl) (Gf fld211_0 rfl (Gl ty46 ?_)))
 refine Gr (Bx (α:=Pt) (xs:=es) B2 rfl (Bj hl)) (Gr (Rad rfl rfl) ?_)
 rw [show (2:Int)+((cs.length:Nat):Int)+((es.length:Nat):Int)=2+nd+((es.length:Nat):Int) by omega]
 refine Gr (Bl (cells:=[_,_,_,_]) ty303 Tryz.underlying303 pl303 rfl rfl) (Ge1 (A8 ty303 rfl) fun b4=>Ge0 (Es4_4 ty303) ?_)
 refine G.fit (J:=vc 305 (.slice none 0 0) (([]:List Arc))::blk b4 [I64 (2+nd+((es.length:Nat):Int)),I64 (0),I64 (1),.slice none 0 0] 303::blk b3 [.int .u64 (0),.slice none 0 0] 208::blk b2 [I64 (nu),I64 (de)] 40::blk b1 [ve,vw,vb,vk,U64 (allB nd),U64 (0#64)] 211::I) (Bw (α:=Arc) _ _) ?_
 refine Af (Ar (S4 5 4 3 2 rfl rfl rfl rfl) (Ai (Gr (Eb rfl rfl) (Ga rfl (Af (Au (Ai (Gf fld211_3 rfl (Gl ty22 ?_)))))))))
 refine Gr (Bx (α:=Int) (xs:=cs) Ac rfl (Bj hkc)) (Gm rfl (Af (A4 (Bv (σ:=Nat×(Option Addr)×Nat×(List Arc)) (fun s=>([(2,.pointer (some ⟨b1,0,none⟩)),(3,.pointer (some ⟨b2,0,none⟩)),(4,.pointer (some ⟨b3,0,none⟩)),(5,.pointer (some ⟨b4,0,none⟩)),(6,.func (.func 281) #[] #[.pointer (some ⟨b4,0,none⟩)]),(33,vk),(34,I64 (((cs.length:Nat):Int))),(35,I64 (((s.1:Nat):Int)))]:Env)) (fun s=>blk b4 [I64 (2+nd+((es.length:Nat):Int)),I64 (0),I64 (1),.slice s.2.1 s.2.2.2.length s.2.2.1] 303::vc 305 (.slice s.2.1 s.2.2.2.length s.2.2.1) (s.2.2.2)::blk b3 [.int .u64 (0),.slice none 0 0] 208::blk b2 [I64 (nu),I64 (de)] 40::blk b1 [ve,vw,vb,vk,U64 (allB nd),U64 (0#64)] 211::I) (fun s=>(s.1≤cs.length)∧(s.2.2.2=(List.range s.1).flatMap (nodeArcs nu))) (fun s=>cs.length - s.1) (0,none,0,[]) (show ((0:Nat)≤cs.length)∧(([]:List Arc)=(List.range (0:Nat)).flatMap (nodeArcs nu)) from ⟨om,rfl⟩) (Aa rfl (Aa rfl (Aa rfl (Aa rfl (Aa rfl (Aa rfl (Aa rfl (Aa B8 Bg)))))))) (show Fit κ _ (blk b4 [I64 (2+nd+((es.length:Nat):Int)),I64 (0),I64 (1),.slice (none) ([]).length (0)] 303::vc 305 (.slice (none) ([]).length (0)) (([]))::blk b3 [.int .u64 (0),.slice none 0 0] 208::blk b2 [I64 (nu),I64 (de)] 40::blk b1 [ve,vw,vb,vk,U64 (allB nd),U64 (0#64)] 211::I) from Bt) ?_))))
 rintro ⟨k,a,c,ar⟩ hp
 dsimp only at hp ⊢
 obtain ⟨hkk,har⟩:=hp
 have harl:ar.length=2*k:=by rw [har,flat_len _ 2 (fun _=>rfl)];omega
 refine Ai (Gr (A9 rfl rfl) (Af (Au (A7 rfl (fun c36=>?_) (fun c36=>?_)))))
 ·refine Aw (Aj (Au (A4 (Ai (Gm rfl (Gr (A3 (α:=Int) (xs:=cs) Ac ty3 rfl rfl (Bj hkc) om oo) (Gr (Br (xs:=cs) ty3 rfl (Bj hkc) om oo) ?_)))))))
  have hkn:k<nd.toNat:=by omega
  rw [hP.c1 (k:Int) om om]
  refine Ga rfl (Ga rfl (Af (Ar (S10 8 7 2 3 4 5 6 33 34 35 rfl rfl rfl rfl rfl rfl rfl rfl rfl rfl) (Au (Bk mixed (Bo (blk b4 [I64 (2+nd+((es.length:Nat):Int)),I64 (0),I64 (1),.slice a ar.length c] 303::vc 305 (.slice a ar.length c) (ar)::blk b3 [.int .u64 (0),.slice none 0 0] 208::blk b2 [I64 (nu),I64 (de)] 40::blk b1 [ve,vw,vb,vk,U64 (allB nd),U64 (0#64)] 211::I) 9 (Dr 0 rfl (Ad rfl) (Dr 2 rfl (Ab fld211_4 rfl) (Dr 3 rfl (As ty175) ?_)))))))))
  refine Dr 5 rfl (Ab fld211_5 rfl) (Dr 6 rfl (As ty175) ?_)
  refine Ds1 1 (Se rfl (Ap call237 rfl rfl (Bit_ok (k:Int))) ?_)
  rintro _ _ ⟨_,_,⟨rfl,rfl⟩,rfl,rfl⟩
  refine ⟨A0,?_⟩
  refine Dr 4 rfl (C5 (a:=bitB (k:Int)) (b:=allB nd) rfl rfl) (Dr 7 rfl (Eh (a:=(bitB (k:Int)) &&& (allB nd)) (b:=0#64) rfl rfl) (Dr 8 rfl (Runs.neB (a:=((bitB (k:Int)) &&& (allB nd)) &&& ~~~(0#64)) (b:=0#64) rfl rfl) (Dz (Aj (Ar (S11 48 8 7 2 3 4 5 6 33 34 35 rfl rfl rfl rfl rfl rfl rfl rfl rfl rfl rfl) (A7 rfl (fun c48=>?_) (fun c48=>?_)))))))
  ·refine Au (Bk mixed (Bo (blk b3 [.int .u64 (0),.slice none 0 0] 208::blk b2 [I64 (nu),I64 (de)] 40::blk b1 [ve,vw,vb,vk,U64 (allB nd),U64 (0#64)] 211::I) 12 (Dr 0 rfl (Ad rfl) (Dr 1 rfl (Ad rfl) (Dr 2 rfl (Rad rfl rfl) (Dr 3 rfl (Ab fld211_2 rfl) (Dr 4 rfl (As ty22) ?_)))))))
   refine Dr 5 rfl (Ad rfl) (Dr 6 rfl (A3 (α:=Int) (xs:=bs) Ac ty3 rfl rfl (Bj hb) om oo) (Dr 7 rfl (Br (xs:=bs) ty3 rfl (Bj hb) om oo) ?_))
   rw [hP.b0 (k:Int) om om]
   refine Dr 8 rfl (Ab fld40_1 rfl) (Dr 9 rfl (As ty3) ?_)
   refine Dr 10 rfl (E4 rfl rfl (by unfold InR;omega)) ?_
   rw [Int.zero_mul]
   refine Ds1 11 (Sc2 rfl (Cx call281 rfl rfl rfl (Cj (J:=blk b4 [I64 (2+nd+((es.length:Nat):Int)),I64 (0),I64 (1),.slice a ar.length c] 303::vc 305 (.slice a ar.length c) (ar)::blk b3 [.int .u64 (0),.slice none 0 0] 208::blk b2 [I64 (nu),I64 (de)] 40::blk b1 [ve,vw,vb,vk,U64 (allB nd),U64 (0#64)] 211::I) Bt (Arc_ok 0 (2+(k:Int)) 0 olp))) fun ad5 cp6=>?_)
   refine Dz (Aj (Ar (S10 8 7 2 3 4 5 6 33 34 35 rfl rfl rfl rfl rfl rfl rfl rfl rfl rfl) (Az (Gm rfl (Gm rfl (Gr (Rad rfl rfl) (Gm rfl (Gf fld40_0 rfl (Gl ty3 ?_)))))))))
   refine Gr (E4 rfl rfl (by unfold InR;omega)) ?_
   rw [Int.one_mul]
   refine Gc2 (Cx call281 rfl rfl rfl (Cj (J:=blk b4 [I64 (2+nd+((es.length:Nat):Int)),I64 (0),I64 (1),.slice ad5 (ar++[(⟨0,2+(k:Int),0⟩:Arc)]).length cp6] 303::vc 305 (.slice ad5 (ar++[(⟨0,2+(k:Int),0⟩:Arc)]).length cp6) (ar++[(⟨0,2+(k:Int),0⟩:Arc)])::blk b3 [.int .u64 (0),.slice none 0 0] 208::blk b2 [I64 (nu),I64 (de)] 40::blk b1 [ve,vw,vb,vk,U64 (allB nd),U64 (0#64)] 211::I) Bt (Arc_ok (2+(k:Int)) 1 nu olp))) fun ad7 cp8=>?_
   exact Bc (Ak (Aj (Ar (S8 2 3 4 5 6 33 34 35 rfl rfl rfl rfl rfl rfl rfl rfl) (Az (Gr (Rad rfl rfl) (Gm rfl (Bc (B3 ((k+1),(ad7),(cp8),((ar++[(⟨0,2+(k:Int),0⟩:Arc)])++[(⟨2+(k:Int),1,nu⟩:Arc)])) (by dsimp only;exact ⟨om,(by rw [flat_succ,←har,List.append_assoc];rfl)⟩)))))))))
  ·exact absurd (bit_all (u:=(k:Int)) om om om) c48
 ·refine Bs (Am (Am (A6 (Aj (Ai (Gf fld211_0 rfl (Gl ty46 ?_)))))))
  refine Gr (Bx (α:=Pt) (xs:=es) B2 rfl (Bj hl)) (Ge2 (Cr (α:=Pt) (n:=es.length) Er ty64 rfl rfl rfl om om dc rfl) fun ad9 cp10=>?_)
  refine Ga rfl (Af (Ar (S6 9 2 3 4 5 6 rfl rfl rfl rfl rfl rfl) (Au (Ai (Gf fld211_0 rfl (Gl ty46 ?_))))))
  refine Gr (Bx (α:=Pt) (xs:=es) B2 rfl (Bj hl)) (Gm rfl (Af (A4 (Bv (σ:=Nat×(Option Addr)×Nat×(List Arc)×(List Pt)) (fun s=>([(2,.pointer (some ⟨b1,0,none⟩)),(3,.pointer (some ⟨b2,0,none⟩)),(4,.pointer (some ⟨b3,0,none⟩)),(5,.pointer (some ⟨b4,0,none⟩)),(6,.func (.func 281) #[] #[.pointer (some ⟨b4,0,none⟩)]),(9,.slice ad9 (List.replicate es.length (default:Pt)).length cp10),(75,ve),(76,I64 (((es.length:Nat):Int))),(77,I64 (((s.1:Nat):Int)))]:Env)) (fun s=>blk b4 [I64 (2+nd+((es.length:Nat):Int)),I64 (0),I64 (1),.slice s.2.1 s.2.2.2.1.length s.2.2.1] 303::vc 305 (.slice s.2.1 s.2.2.2.1.length s.2.2.1) (s.2.2.2.1)::vc 64 (.slice ad9 (List.replicate es.length (default:Pt)).length cp10) (s.2.2.2.2)::blk b3 [.int .u64 (0),.slice none 0 0] 208::blk b2 [I64 (nu),I64 (de)] 40::blk b1 [ve,vw,vb,vk,U64 (allB nd),U64 (0#64)] 211::I) (fun s=>(s.1≤es.length)∧(s.2.2.2.1=ar++(List.range s.1).flatMap (edgeArcs nd de es))∧(s.2.2.2.2.length=es.length)∧(∀i:Nat,i<s.1→at_ s.2.2.2.2 (i:Int)=stepP (2*nd+3*(i:Int)+1) 2)) (fun s=>es.length - s.1) (0,a,c,ar,List.replicate es.length (default:Pt)) (show ((0:Nat)≤es.length)∧((ar:List Arc)=ar++(List.range (0:Nat)).flatMap (edgeArcs nd de es))∧((List.replicate es.length (default:Pt):List Pt).length=es.length)∧(∀i:Nat,i<(0:Nat)→at_ (List.replicate es.length (default:Pt):List Pt) (i:Int)=stepP (2*nd+3*(i:Int)+1) 2) from ⟨om,(by simp),List.length_replicate,(fun i h=>by omega)⟩) (Aa rfl (Aa rfl (Aa rfl (Aa rfl (Aa rfl (Aa rfl (Aa rfl (Aa rfl (Aa B8 Bg))))))))) (show Fit κ _ (blk b4 [I64 (2+nd+((es.length:Nat):Int)),I64 (0),I64 (1),.slice (a) (ar).length (c)] 303::vc 305 (.slice (a) (ar).length (c)) ((ar))::vc 64 (.slice ad9 (List.replicate es.length (default:Pt)).length cp10) ((List.replicate es.length (default:Pt)))::blk b3 [.int .u64 (0),.slice none 0 0] 208::blk b2 [I64 (nu),I64 (de)] 40::blk b1 [ve,vw,vb,vk,U64 (allB nd),U64 (0#64)] 211::I) from Bt) ?_))))
  rintro ⟨k2,a2,c2,ar2,fs⟩ hp
  dsimp only at hp ⊢
  obtain ⟨hk2,har2,hfl,hfs⟩:=hp
  have har2l:ar2.length=2*k+3*k2:=by rw [har2,List.length_append,harl,flat_len _ 3 (fun _=>rfl)];omega
  refine Ai (Gr (A9 rfl rfl) (Af (Au (A7 rfl (fun c78=>?_) (fun c78=>?_)))))
  ·refine Aw (Aj (Au (A4 (Ai (Gm rfl (Gr (A3 (α:=Pt) (xs:=es) B2 ty135 rfl rfl (Bj hl) om oo) (Gr (Bu (α:=Pt) (xs:=es) ty135 rfl (Bj hl) om oo) ?_)))))))
   have hed:=hG.edge (at_ es (k2:Int)) (Cf om om)
   refine Ge1 (A8 ty135 rfl) fun b11=>Ga rfl (Ge0 (Ce ty135) ?_)
   refine Af (Ar (S11 10 11 2 3 4 5 6 9 75 76 77 rfl rfl rfl rfl rfl rfl rfl rfl rfl rfl rfl) (Ai (Gf fld211_3 rfl (Gl ty22 ?_))))
   refine Gr (Bx (α:=Int) (xs:=cs) Ac rfl (Bj hkc)) (Gr (Rad rfl rfl) (Gm rfl (Gr (Rad rfl rfl) ?_)))
   rw [show (2:Int)+((cs.length:Nat):Int)+(k2:Int)=2+nd+(k2:Int) by omega]
   refine Ga rfl (Af (Ar (S12 12 10 11 2 3 4 5 6 9 75 76 77 rfl rfl rfl rfl rfl rfl rfl rfl rfl rfl rfl rfl) (Au (Bk mixed (Bo (blk b11 [I64 ((at_ es (k2:Int)).u),I64 ((at_ es (k2:Int)).v)] 135::blk b4 [I64 (2+nd+((es.length:Nat):Int)),I64 (0),I64 (1),.slice a2 ar2.length c2] 303::vc 305 (.slice a2 ar2.length c2) (ar2)::vc 64 (.slice ad9 (List.replicate es.length (default:Pt)).length cp10) (fs)::blk b3 [.int .u64 (0),.slice none 0 0] 208::blk b2 [I64 (nu),I64 (de)] 40::blk b1 [ve,vw,vb,vk,U64 (allB nd),U64 (0#64)] 211::I) 9 (Dr 0 rfl (Ab fld211_1 rfl) (Dr 1 rfl (As ty22) ?_)))))))
   refine Dr 2 rfl (Ad rfl) (Dr 3 rfl (A3 (α:=Int) (xs:=ws) Ac ty3 rfl rfl (Bj hw) om oo) (Dr 4 rfl (Br (xs:=ws) ty3 rfl (Bj hw) om oo) ?_))
   rw [hP.w1 k2 om]
   refine Dr 5 rfl (Ab fld40_1 rfl) (Dr 6 rfl (As ty3) ?_)
   refine Dr 7 rfl (E4 rfl rfl (by unfold InR;omega)) ?_
   rw [Int.one_mul]
   refine Dr 8 rfl (Ba rfl) (Dz (Aj (Ar (S13 13 12 10 11 2 3 4 5 6 9 75 76 77 rfl rfl rfl rfl rfl rfl rfl rfl rfl rfl rfl rfl rfl) (Ai (Gm rfl (Gm rfl (Gm rfl (Gc2 (Cx call281 rfl rfl rfl (Cj (J:=blk b4 [I64 (2+nd+((es.length:Nat):Int)),I64 (0),I64 (1),.slice a2 ar2.length c2] 303::vc 305 (.slice a2 ar2.length c2) (ar2)::blk b11 [I64 ((at_ es (k2:Int)).u),I64 ((at_ es (k2:Int)).v)] 135::vc 64 (.slice ad9 (List.replicate es.length (default:Pt)).length cp10) (fs)::blk b3 [.int .u64 (0),.slice none 0 0] 208::blk b2 [I64 (nu),I64 (de)] 40::blk b1 [ve,vw,vb,vk,U64 (allB nd),U64 (0#64)] 211::I) Bt (Arc_ok 0 (2+nd+(k2:Int)) de olp))) fun ad12 cp13=>?_))))))))
   refine Af (Ar (S13 13 12 10 11 2 3 4 5 6 9 75 76 77 rfl rfl rfl rfl rfl rfl rfl rfl rfl rfl rfl rfl rfl) (Ai (Gm rfl (Gm rfl (Gr (Runs.buildArr (cells:=[_,_]) ty64 Cq ty3 rfl rfl) (Gr (A3 (α:=Pt) (xs:=fs) Er ty64 rfl rfl Bf om oo) (Ge0 (C6 (α:=Pt) (xs:=fs) (e:=64) (new:=⟨-1, -1⟩) ty64 rfl rfl rfl om oo am) ?_)))))))
   refine Af (Ar (S13 13 12 10 11 2 3 4 5 6 9 75 76 77 rfl rfl rfl rfl rfl rfl rfl rfl rfl rfl rfl rfl rfl) (Ai (Gf fld135_0 rfl (Gl ty3 ?_))))
   refine Gf fld135_1 rfl (Gl ty3 ?_)
   refine Gr (Runs.buildArr (cells:=[_,_]) ty64 Cq ty3 rfl rfl) (Gm rfl (Af (Ar (S14 109 108 13 12 10 2 3 4 5 6 9 75 76 77 rfl rfl rfl rfl rfl rfl rfl rfl rfl rfl rfl rfl rfl rfl) (A4 (Bv (σ:=Nat×(Option Addr)×Nat×(List Arc)×(List Pt)) (fun s=>([(2,.pointer (some ⟨b1,0,none⟩)),(3,.pointer (some ⟨b2,0,none⟩)),(4,.pointer (some ⟨b3,0,none⟩)),(5,.pointer (some ⟨b4,0,none⟩)),(6,.func (.func 281) #[] #[.pointer (some ⟨b4,0,none⟩)]),(9,.slice ad9 (List.replicate es.length (default:Pt)).length cp10),(10,I64 ((k2:Int))),(12,I64 (2+nd+(k2:Int))),(13,I64 (de)),(75,ve),(76,I64 (((es.length:Nat):Int))),(77,I64 ((k2:Int))),(108,.agg #[I64 ((at_ es (k2:Int)).u),I64 ((at_ es (k2:Int)).v)]),(109,I64 (((s.1:Nat):Int)))]:Env)) (fun s=>blk b4 [I64 (2+nd+((es.length:Nat):Int)),I64 (0),I64 (1),.slice s.2.1 s.2.2.2.1.length s.2.2.1] 303::vc 305 (.slice s.2.1 s.2.2.2.1.length s.2.2.1) (s.2.2.2.1)::blk b11 [I64 ((at_ es (k2:Int)).u),I64 ((at_ es (k2:Int)).v)] 135::vc 64 (.slice ad9 (List.replicate es.length (default:Pt)).length cp10) (s.2.2.2.2)::blk b3 [.int .u64 (0),.slice none 0 0] 208::blk b2 [I64 (nu),I64 (de)] 40::blk b1 [ve,vw,vb,vk,U64 (allB nd),U64 (0#64)] 211::I) (fun s=>(s.1≤2)∧(s.2.2.2.1=ar2++(edgeArcs nd de es k2).take (1+s.1))∧(s.2.2.2.2=fs.set k2 (stepP (2*nd+3*(k2:Int)+1) s.1))) (fun s=>2 - s.1) (0,ad12,cp13,ar2++[(⟨0,2+nd+(k2:Int),de⟩:Arc)],List.set fs ((k2:Int)).toNat (⟨-1, -1⟩)) (show ((0:Nat)≤2)∧((ar2++[(⟨0,2+nd+(k2:Int),de⟩:Arc)]:List Arc)=ar2++(edgeArcs nd de es k2).take (1+(0:Nat)))∧((List.set fs ((k2:Int)).toNat (⟨-1, -1⟩):List Pt)=fs.set k2 (stepP (2*nd+3*(k2:Int)+1) (0:Nat))) from ⟨om,rfl,(by rw [Int.toNat_natCast];rfl)⟩) (Aa rfl (Aa rfl (Aa rfl (Aa rfl (Aa rfl (Aa rfl (Aa rfl (Aa rfl (Aa rfl (Aa rfl (Aa rfl (Aa rfl (Aa rfl (Aa B8 Bg)))))))))))))) (show Fit κ _ (blk b4 [I64 (2+nd+((es.length:Nat):Int)),I64 (0),I64 (1),.slice (ad12) (ar2++[(⟨0,2+nd+(k2:Int),de⟩:Arc)]).length (cp13)] 303::vc 305 (.slice (ad12) (ar2++[(⟨0,2+nd+(k2:Int),de⟩:Arc)]).length (cp13)) ((ar2++[(⟨0,2+nd+(k2:Int),de⟩:Arc)]))::blk b11 [I64 ((at_ es (k2:Int)).u),I64 ((at_ es (k2:Int)).v)] 135::vc 64 (.slice ad9 (List.replicate es.length (default:Pt)).length cp10) ((List.set fs ((k2:Int)).toNat (⟨-1, -1⟩)))::blk b3 [.int .u64 (0),.slice none 0 0] 208::blk b2 [I64 (nu),I64 (de)] 40::blk b1 [ve,vw,vb,vk,U64 (allB nd),U64 (0#64)] 211::I) from Bt) ?_)))))
   rintro ⟨j,a3,c3,ar3,fs3⟩ hp
   dsimp only at hp ⊢
   obtain ⟨hj,har3,hfs3⟩:=hp
   refine W.pull (p:=0<fs3.length→ad9≠none) (vc.isSome mm) fun hsf=>?_
   have har3l:ar3.length=2*k+3*k2+1+j:=by rw [har3,List.length_append,List.length_take,har2l];show 2*k+3*k2+min (1+j) 3=_;omega
   have hf3l:fs3.length=es.length:=by rw [hfs3,List.length_set];exact hfl
   refine Ai (Gr (A9 rfl rfl) (Af (Ar (S15 110 2 3 4 5 6 9 10 12 13 75 76 77 108 109 rfl rfl rfl rfl rfl rfl rfl rfl rfl rfl rfl rfl rfl rfl rfl) (Au (A7 rfl (fun c110=>?_) (fun c110=>?_))))))
   ·refine Aw (Aj (Ar (S14 2 3 4 5 6 9 10 12 13 75 76 77 108 109 rfl rfl rfl rfl rfl rfl rfl rfl rfl rfl rfl rfl rfl rfl) (Au (A4 (Ai (Gm rfl (Gr (Runs.index2 (ix2a _ _) (ix2b _ _) rfl rfl om) (Ga rfl (Ga rfl (Af (Ar (S16 15 14 2 3 4 5 6 9 10 12 13 75 76 77 108 109 rfl rfl rfl rfl rfl rfl rfl rfl rfl rfl rfl rfl rfl rfl rfl rfl) (Au (Bk mixed (Bo (blk b4 [I64 (2+nd+((es.length:Nat):Int)),I64 (0),I64 (1),.slice a3 ar3.length c3] 303::vc 305 (.slice a3 ar3.length c3) (ar3)::blk b11 [I64 ((at_ es (k2:Int)).u),I64 ((at_ es (k2:Int)).v)] 135::vc 64 (.slice ad9 (List.replicate es.length (default:Pt)).length cp10) (fs3)::blk b3 [.int .u64 (0),.slice none 0 0] 208::blk b2 [I64 (nu),I64 (de)] 40::blk b1 [ve,vw,vb,vk,U64 (allB nd),U64 (0#64)] 211::I) 6 (Dr 0 rfl (Ad rfl) (Dr 2 rfl (Ab fld211_5 rfl) (Dr 3 rfl (As ty175) ?_)))))))))))))))))
    refine Ds1 1 (Se rfl (Ap call237 rfl rfl (Bit_ok (if (j:Int)=0 then (at_ es (k2:Int)).u else (at_ es (k2:Int)).v))) ?_)
    rintro _ _ ⟨_,_,⟨rfl,rfl⟩,rfl,rfl⟩
    refine ⟨A0,?_⟩
    refine Dr 4 rfl (C5 (a:=bitB (if (j:Int)=0 then (at_ es (k2:Int)).u else (at_ es (k2:Int)).v)) (b:=0#64) rfl rfl) (Dr 5 rfl (Runs.eqB (a:=(bitB (if (j:Int)=0 then (at_ es (k2:Int)).u else (at_ es (k2:Int)).v)) &&& (0#64)) (b:=0#64) rfl rfl) (Dz (Aj (Ar (S17 118 15 14 2 3 4 5 6 9 10 12 13 75 76 77 108 109 rfl rfl rfl rfl rfl rfl rfl rfl rfl rfl rfl rfl rfl rfl rfl rfl rfl) (A7 rfl (fun c118=>?_) (fun c118=>?_))))))
    ·refine Bk mixed (Bo (blk b11 [I64 ((at_ es (k2:Int)).u),I64 ((at_ es (k2:Int)).v)] 135::blk b3 [.int .u64 (0),.slice none 0 0] 208::blk b2 [I64 (nu),I64 (de)] 40::blk b1 [ve,vw,vb,vk,U64 (allB nd),U64 (0#64)] 211::I) 12 (Dr 0 rfl (Ad rfl) (Dr 1 rfl (Ad rfl) (Dr 2 rfl (Ad rfl) (Dr 3 rfl (Ad rfl) (Dr 4 rfl (Ad rfl) (Dr 5 rfl (Ad rfl) (Dr 6 rfl (Rad rfl rfl) (Dr 7 rfl (Ad rfl) (Dr 9 rfl (Runs.idxsV Pt Er ty64 rfl rfl (hsf om) om (by simp only [List.length_replicate];omega)) (Ds1 8 (Sc2 rfl (Cx call281 rfl rfl rfl (Cj (J:=blk b4 [I64 (2+nd+((es.length:Nat):Int)),I64 (0),I64 (1),.slice a3 ar3.length c3] 303::vc 305 (.slice a3 ar3.length c3) (ar3)::blk b11 [I64 ((at_ es (k2:Int)).u),I64 ((at_ es (k2:Int)).v)] 135::vc 64 (.slice ad9 (List.replicate es.length (default:Pt)).length cp10) (fs3)::blk b3 [.int .u64 (0),.slice none 0 0] 208::blk b2 [I64 (nu),I64 (de)] 40::blk b1 [ve,vw,vb,vk,U64 (allB nd),U64 (0#64)] 211::I) Bt (Arc_ok (2+nd+(k2:Int)) (2+(if (j:Int)=0 then (at_ es (k2:Int)).u else (at_ es (k2:Int)).v)) de olp))) fun ad14 cp15=>?_))))))))))))
     refine Dr 10 rfl (Runs.idxElF Cq ty3 rfl rfl (hsf om) om om) (Ds1 11 (Se0 rfl (Eff.setP2 (xs:=fs3) (i:=(k2:Int)) (j:=(j:Int)) (n:=((ar3.length:Nat):Int)) (e:=64) ty3 rfl rfl om om om am) ?_))
     exact Dz (Ak (Aj (Ar (S14 2 3 4 5 6 9 10 12 13 75 76 77 108 109 rfl rfl rfl rfl rfl rfl rfl rfl rfl rfl rfl rfl rfl rfl) (Az (Gr (Rad rfl rfl) (Gm rfl (Bc (B3 ((j+1),(ad14),(cp15),(ar3++[(⟨2+nd+(k2:Int),2+(if (j:Int)=0 then (at_ es (k2:Int)).u else (at_ es (k2:Int)).v),de⟩:Arc)]),(List.set fs3 ((k2:Int)).toNat (setP2 (at_ fs3 (k2:Int)) (j:Int) ((ar3.length:Nat):Int)))) (by dsimp only;exact ⟨om,(by rcases (show j=0∨j=1 by omega) with e|e<;>subst e<;>rw [har3,List.append_assoc]<;>simp [edgeArcs]),(step_first hfs3 om om om)⟩)))))))))
    ·exact absurd BitVec.and_zero c118
   ·exact Bs (Am (Am (A6 (Ak (Aj (Ar (S9 2 3 4 5 6 9 75 76 77 rfl rfl rfl rfl rfl rfl rfl rfl rfl) (Az (Gr (Rad rfl rfl) (Gm rfl (Bc (B3 ((k2+1),(a3),(c3),(ar3),(fs3)) (by dsimp only;exact ⟨om,(by rw [har3,har2,flat_succ,List.append_assoc,List.take_of_length_le (show (edgeArcs nd de es k2).length≤1+j by show 3≤1+j;omega)]),hf3l,(first_next hfs3 om om hfs)⟩))))))))))))
  ·refine Bs (Am (Am (A6 (Aj (Ai (Gl4 ty303 ?_))))))
   have hall:ar2=denseArcs nd nu de es:=by rw [har2,har,show k=nd.toNat by omega,show k2=es.length by omega];rfl
   rw [hall]
   have hdl:=denseArcs_len nd nu de es
   refine G.e (Ap call282 rfl rfl (Both_ok (n:=denseNet nd nu de es) Bf (denseNet_ok hG hm om om))) ?_
   rintro _ _ ⟨_,_,⟨ad16,cp17,fl,ad18,cp19,side,val,rfl,hB,rfl⟩,rfl,rfl⟩
   have hsl:((side.length:Nat):Int)=2+nd+((es.length:Nat):Int):=hB.len
   have hfl2:fl.length=nd.toNat*2+es.length*3:=hB.flow.len.trans hdl
   refine Gm rfl (Gr (A2 rfl rfl) (Gr (A2 rfl rfl) (Gr (A2 rfl rfl) (Ga rfl (Ga rfl (Ga rfl (Af (Ar (S6 18 16 2 3 4 9 rfl rfl rfl rfl rfl rfl) (Ai (Gf fld211_5 rfl (Gl ty175 ?_)))))))))))
   refine Gr (Bl (cells:=[_,_]) ty208 Tryz.underlying208 pl208 rfl rfl) (Ge1 (A8 ty208 rfl) fun b20=>Ge0 (Ce ty208) ?_)
   refine Af (Au (Ai (Gf fld211_3 rfl (Gl ty22 ?_))))
   refine Gr (Bx (α:=Int) (xs:=cs) Ac rfl (Bj hkc)) (Gm rfl (Af (Ar (S9 144 143 19 18 16 2 3 4 9 rfl rfl rfl rfl rfl rfl rfl rfl rfl) (A4 (Bv (σ:=Nat×(BitVec 64)) (fun s=>([(2,.pointer (some ⟨b1,0,none⟩)),(3,.pointer (some ⟨b2,0,none⟩)),(4,.pointer (some ⟨b3,0,none⟩)),(9,.slice ad9 (List.replicate es.length (default:Pt)).length cp10),(16,.slice ad16 fl.length cp17),(18,.slice ad18 side.length cp19),(19,.pointer (some ⟨b20,0,none⟩)),(143,I64 (((cs.length:Nat):Int))),(144,I64 (((s.1:Nat):Int)))]:Env)) (fun s=>blk b20 [U64 (s.2),.slice none 0 0] 208::vc 4 (.slice ad18 side.length cp19) (side)::vc 3 (.slice ad16 fl.length cp17) (fl)::blk b4 [I64 (2+nd+((es.length:Nat):Int)),I64 (0),I64 (1),.slice a2 (denseArcs nd nu de es).length c2] 303::vc 305 (.slice a2 (denseArcs nd nu de es).length c2) ((denseArcs nd nu de es))::vc 64 (.slice ad9 (List.replicate es.length (default:Pt)).length cp10) (fs)::blk b3 [.int .u64 (0),.slice none 0 0] 208::blk b2 [I64 (nu),I64 (de)] 40::blk b1 [ve,vw,vb,vk,U64 (allB nd),U64 (0#64)] 211::I) (fun s=>(s.1≤cs.length)∧(∀v:Int,v∈listB s.2↔(0≤v∧v<((s.1:Nat):Int))∧at_ side (2+v)=true)) (fun s=>cs.length - s.1) (0,0#64) (show ((0:Nat)≤cs.length)∧(∀v:Int,v∈listB (0#64:BitVec 64)↔(0≤v∧v<(((0:Nat):Nat):Int))∧at_ side (2+v)=true) from ⟨om,(fun v=>by rw [C2];constructor;(· intro h;cases h);(· rintro ⟨h,_⟩;omega))⟩) (Aa rfl (Aa rfl (Aa rfl (Aa rfl (Aa rfl (Aa rfl (Aa rfl (Aa rfl (Aa B8 Bg))))))))) (show Fit κ _ (blk b20 [U64 ((0#64)),.slice none 0 0] 208::vc 4 (.slice ad18 side.length cp19) (side)::vc 3 (.slice ad16 fl.length cp17) (fl)::blk b4 [I64 (2+nd+((es.length:Nat):Int)),I64 (0),I64 (1),.slice a2 (denseArcs nd nu de es).length c2] 303::vc 305 (.slice a2 (denseArcs nd nu de es).length c2) ((denseArcs nd nu de es))::vc 64 (.slice ad9 (List.replicate es.length (default:Pt)).length cp10) (fs)::blk b3 [.int .u64 (0),.slice none 0 0] 208::blk b2 [I64 (nu),I64 (de)] 40::blk b1 [ve,vw,vb,vk,U64 (allB nd),U64 (0#64)] 211::I) from A5) ?_)))))
   rintro ⟨k3,B⟩ hp
   dsimp only at hp ⊢
   obtain ⟨hk3,hB6⟩:=hp
   refine Ai (Gr (A9 rfl rfl) (Af (Au (A7 rfl (fun c145=>?_) (fun c145=>?_)))))
   ·refine Aw (Aj (Au (A4 (Ai (Gm rfl (Ga rfl (Af (Au (Bk mixed (Bo (blk b20 [U64 (B),.slice none 0 0] 208::vc 4 (.slice ad18 side.length cp19) (side)::vc 3 (.slice ad16 fl.length cp17) (fl)::blk b4 [I64 (2+nd+((es.length:Nat):Int)),I64 (0),I64 (1),.slice a2 (denseArcs nd nu de es).length c2] 303::vc 305 (.slice a2 (denseArcs nd nu de es).length c2) ((denseArcs nd nu de es))::vc 64 (.slice ad9 (List.replicate es.length (default:Pt)).length cp10) (fs)::blk b3 [.int .u64 (0),.slice none 0 0] 208::blk b2 [I64 (nu),I64 (de)] 40::blk b1 [ve,vw,vb,vk,U64 (allB nd),U64 (0#64)] 211::I) 16 (Dr 0 rfl (Ad rfl) (Dr 2 rfl (Ab fld211_4 rfl) (Dr 3 rfl (As ty175) ?_)))))))))))))
    refine Dr 5 rfl (Ab fld211_5 rfl) (Dr 6 rfl (As ty175) ?_)
    refine Ds1 1 (Se rfl (Ap call237 rfl rfl (Bit_ok (k3:Int))) ?_)
    rintro _ _ ⟨_,_,⟨rfl,rfl⟩,rfl,rfl⟩
    refine ⟨A0,?_⟩
    refine Dr 4 rfl (C5 (a:=bitB (k3:Int)) (b:=allB nd) rfl rfl) (Dr 7 rfl (Eh (a:=(bitB (k3:Int)) &&& (allB nd)) (b:=0#64) rfl rfl) (Dr 8 rfl (Runs.neB (a:=((bitB (k3:Int)) &&& (allB nd)) &&& ~~~(0#64)) (b:=0#64) rfl rfl) (Dr 9 rfl (Ad rfl) (C7 (d:=156) rfl (fun g156=>?_) (fun g156=>?_)))))
    ·refine Dro 10 rfl (Ad rfl) (Dro 11 rfl (Ad rfl) (Dro 12 rfl (Rad rfl rfl) (Dro 13 rfl (A3 (α:=Bool) (xs:=side) Db ty4 rfl rfl Bf om oo) (Dro 14 rfl (Runs.getB (xs:=side) ty4 rfl Bf om oo) (Dr 15 rfl (Ao rfl rfl) (Dz (Aj (Ar (S11 162 20 2 3 4 9 16 18 19 143 144 rfl rfl rfl rfl rfl rfl rfl rfl rfl rfl rfl) (Ek rfl (fun c162=>?_) (fun c162=>?_))))))))))
     ·refine Bk mixed (Bo (blk b20 [U64 (B),.slice none 0 0] 208::vc 4 (.slice ad18 side.length cp19) (side)::vc 3 (.slice ad16 fl.length cp17) (fl)::blk b4 [I64 (2+nd+((es.length:Nat):Int)),I64 (0),I64 (1),.slice a2 (denseArcs nd nu de es).length c2] 303::vc 305 (.slice a2 (denseArcs nd nu de es).length c2) ((denseArcs nd nu de es))::vc 64 (.slice ad9 (List.replicate es.length (default:Pt)).length cp10) (fs)::blk b3 [.int .u64 (0),.slice none 0 0] 208::blk b2 [I64 (nu),I64 (de)] 40::blk b1 [ve,vw,vb,vk,U64 (allB nd),U64 (0#64)] 211::I) 6 (Dr 0 rfl (Ab fld208_0 rfl) (Dr 1 rfl (As ty175) ?_)))
      refine Dr 2 rfl (Ad rfl) (Ds1 3 (Se rfl (Ap call237 rfl rfl (Bit_ok (k3:Int))) ?_))
      rintro _ _ ⟨_,_,⟨rfl,rfl⟩,rfl,rfl⟩
      refine ⟨A0,?_⟩
      refine Dr 4 rfl (E3 (a:=B) (b:=bitB (k3:Int)) rfl rfl) (Dr 5 rfl (Ab fld208_0 rfl) (Dc kr ?_))
      refine Ae 6 rfl (Eu ty175) ?_
      rintro _ _ ⟨rfl,rfl⟩
      refine De kr ?_
      exact Ak (Aj (Ar (S9 2 3 4 9 16 18 19 143 144 rfl rfl rfl rfl rfl rfl rfl rfl rfl) (Az (Gr (Rad rfl rfl) (Gm rfl (Bc (B3 ((k3+1),(B ||| (bitB (k3:Int)))) (by dsimp only;exact ⟨om,(by first|exact or_yes (p:=fun v=>at_ side (2+v)=true) om hB6 c162|exact or_no (p:=fun v=>at_ side (2+v)=true) hB6 (by rw [c162];simp))⟩))))))))
     ·exact Aw (Ak (Aj (Az (Gr (Rad rfl rfl) (Gm rfl (Bc (B3 ((k3+1),(B)) (by dsimp only;exact ⟨om,(by first|exact or_yes (p:=fun v=>at_ side (2+v)=true) om hB6 c162|exact or_no (p:=fun v=>at_ side (2+v)=true) hB6 (by rw [c162];simp))⟩))))))))
    ·exact absurd (bit_all (u:=(k3:Int)) om om om) g156
   ·refine Bs (Am (Am (A6 (Aj (Au (Ai (Gf fld211_0 rfl (Gl ty46 ?_))))))))
    refine Gr (Bx (α:=Pt) (xs:=es) B2 rfl (Bj hl)) (Gm rfl (Af (Ar (S8 173 172 2 3 4 9 16 19 rfl rfl rfl rfl rfl rfl rfl rfl) (A4 (Bv (σ:=Nat×(Option Addr)×Nat×(List Int)) (fun s=>([(2,.pointer (some ⟨b1,0,none⟩)),(3,.pointer (some ⟨b2,0,none⟩)),(4,.pointer (some ⟨b3,0,none⟩)),(9,.slice ad9 (List.replicate es.length (default:Pt)).length cp10),(16,.slice ad16 fl.length cp17),(19,.pointer (some ⟨b20,0,none⟩)),(172,I64 (((es.length:Nat):Int))),(173,I64 (((s.1:Nat):Int)))]:Env)) (fun s=>vc 3 (.slice s.2.1 s.2.2.2.length s.2.2.1) (s.2.2.2)::blk b20 [U64 (B),.slice s.2.1 s.2.2.2.length s.2.2.1] 208::vc 4 (.slice ad18 side.length cp19) (side)::vc 3 (.slice ad16 fl.length cp17) (fl)::blk b4 [I64 (2+nd+((es.length:Nat):Int)),I64 (0),I64 (1),.slice a2 (denseArcs nd nu de es).length c2] 303::vc 305 (.slice a2 (denseArcs nd nu de es).length c2) ((denseArcs nd nu de es))::vc 64 (.slice ad9 (List.replicate es.length (default:Pt)).length cp10) (fs)::blk b3 [.int .u64 (0),.slice none 0 0] 208::blk b2 [I64 (nu),I64 (de)] 40::blk b1 [ve,vw,vb,vk,U64 (allB nd),U64 (0#64)] 211::I) (fun s=>(s.1≤es.length)∧(s.2.2.2.length=s.1)) (fun s=>es.length - s.1) (0,none,0,[]) (show ((0:Nat)≤es.length)∧(([]:List Int).length=(0:Nat)) from ⟨om,rfl⟩) (Aa rfl (Aa rfl (Aa rfl (Aa rfl (Aa rfl (Aa rfl (Aa rfl (Aa B8 Bg)))))))) (show Fit κ _ (vc 3 (.slice (none) ([]).length (0)) (([]))::blk b20 [U64 (B),.slice (none) ([]).length (0)] 208::vc 4 (.slice ad18 side.length cp19) (side)::vc 3 (.slice ad16 fl.length cp17) (fl)::blk b4 [I64 (2+nd+((es.length:Nat):Int)),I64 (0),I64 (1),.slice a2 (denseArcs nd nu de es).length c2] 303::vc 305 (.slice a2 (denseArcs nd nu de es).length c2) ((denseArcs nd nu de es))::vc 64 (.slice ad9 (List.replicate es.length (default:Pt)).length cp10) (fs)::blk b3 [.int .u64 (0),.slice none 0 0] 208::blk b2 [I64 (nu),I64 (de)] 40::blk b1 [ve,vw,vb,vk,U64 (allB nd),U64 (0#64)] 211::I) from (Bw _ _)) ?_)))))
    rintro ⟨k4,pa,pc,parts⟩ hp
    dsimp only at hp ⊢
    obtain ⟨hk4,hpl⟩:=hp
    have hfu:k4<es.length→(at_ fs (k4:Int)).u<fl.length∧(at_ fs (k4:Int)).v<fl.length:=fun h=>by rw [hfs k4 om];exact ⟨by show 2*nd+3*(k4:Int)+1<_;omega,by show 2*nd+3*(k4:Int)+1+1<_;omega⟩
    refine Ai (Gr (A9 rfl rfl) (Af (Au (A7 rfl (fun c174=>?_) (fun c174=>?_)))))
    ·refine Aw (Aj (Au (A4 (Ai (Gm rfl (Ga rfl (Af (Bk mixed (Bo (blk b20 [U64 (B),.slice pa parts.length pc] 208::vc 4 (.slice ad18 side.length cp19) (side)::vc 3 (.slice ad16 fl.length cp17) (fl)::blk b4 [I64 (2+nd+((es.length:Nat):Int)),I64 (0),I64 (1),.slice a2 (denseArcs nd nu de es).length c2] 303::vc 305 (.slice a2 (denseArcs nd nu de es).length c2) ((denseArcs nd nu de es))::vc 64 (.slice ad9 (List.replicate es.length (default:Pt)).length cp10) (fs)::blk b3 [.int .u64 (0),.slice none 0 0] 208::blk b2 [I64 (nu),I64 (de)] 40::blk b1 [ve,vw,vb,vk,U64 (allB nd),U64 (0#64)] 211::I) 21 (Dr 0 rfl (Ab fld208_1 rfl) (Dr 1 rfl (As ty22) ?_)))))))))))
     refine Dr 2 rfl (Bq (vs:=[_,_,_,_,_,_]) ty211) ?_
     refine Dr 3 rfl (Ad rfl) (Dr 4 rfl (Ad rfl) (Dr 5 rfl (Ad rfl) (Dr 6 rfl (A3 (α:=Pt) (xs:=fs) Er ty64 rfl rfl Bf om oo) (Dr 7 rfl (Bu (α:=Pt) (xs:=fs) ty64 rfl Bf om oo) ?_))))
     have hfu2:=hfu om
     refine Dr 8 rfl (Ad rfl) (Dr 9 rfl (Ab fld211_1 rfl) (Dr 10 rfl (As ty22) ?_))
     refine Dr 11 rfl (Ad rfl) (Dr 12 rfl (A3 (α:=Int) (xs:=ws) Ac ty3 rfl rfl (Bj hw) om oo) (Dr 13 rfl (Br (xs:=ws) ty3 rfl (Bj hw) om oo) ?_))
     rw [hP.w1 k4 om]
     refine Dr 14 rfl (Ab fld40_1 rfl) (Dr 15 rfl (As ty3) ?_)
     refine Dr 16 rfl (E4 rfl rfl (by unfold InR;omega)) ?_
     rw [Int.one_mul]
     refine Ds1 17 (Se rfl (Ap call283 rfl rfl (Part_ok Bf hfu2.1 hfu2.2 (flow_small hN hD4 hB.flow) hD4)) ?_)
     rintro _ _ ⟨_,_,⟨px,rfl,rfl⟩,rfl,rfl⟩
     refine ⟨A5,?_⟩
     refine Ds1 18 (Se1 rfl (B1 (α:=Int) (cs:=[_]) (xs:=[px]) Ac ty3 rfl rfl dc dc rfl rfl rfl rfl) fun ad21=>?_)
     refine Ds1 19 (Se2 rfl (B0 (α:=Int) (e:=3) (xs:=parts) (ys:=([px]:List Int)) Ac ty3 rfl rfl rfl mm Bf lcn dc rfl (fun _ _=>am)) fun ad22 cp23=>?_)
     refine Dr 20 rfl (Ab fld208_1 rfl) (Dc kr ?_)
     refine Ae 21 rfl (Eu ty22) ?_
     rintro _ _ ⟨rfl,rfl⟩
     refine De kr ?_
     exact Ak (Aj (Ar (S8 2 3 4 9 16 19 172 173 rfl rfl rfl rfl rfl rfl rfl rfl) (Az (Gr (Rad rfl rfl) (Gm rfl (Bc (B3 ((k4+1),(ad22),(cp23),(parts++([px]:List Int))) (by dsimp only;exact ⟨om,lap⟩))))))))
    ·refine Bs (Am (Am (A6 (Aj (Ai (Gl2 ty208 ?_))))))
     refine Ge0 (Ce ty208) ?_
     exact Af (Ax (D1 rfl ty208 rfl mm rfl (vc 3 (.slice pa parts.length pc) parts::I) Bt ⟨B,pa,pc,parts,rfl,solve_of hG hm hN hD4 hB om hB6,by omega,rfl⟩))
end Go.Sl
