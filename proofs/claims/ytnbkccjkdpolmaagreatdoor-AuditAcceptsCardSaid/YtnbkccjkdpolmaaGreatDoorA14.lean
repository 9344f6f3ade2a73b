/- A part of the proofs of statements of this seat: contracts of functions, and the plain laws that they lean on. No conditions. -/
import Derived.Test.YtnbkccjkdpolmaaGreatDoorA13
set_option linter.unusedVariables false
set_option linter.unusedSimpArgs false
set_option linter.unusedSectionVars false
open List (replicate)
set_option maxHeartbeats 4000000
namespace Go.Sl
open Go.Proofs
set_option maxRecDepth 4000
structure BothP (n:Net) (f:List Int) (side:List Bool):Prop where
 flow:IsFlow n f
 len:(side.length:Int)=n.nodes
 great:∃T,Great n f T/\∀z:Int,0<=z->z<n.nodes->e_ side z=T z
theorem Both_ok{κ:Ctx}{I:List Item}{n:Net}{v:Value}(hl:Sl κ I v n.arcs)(ab:n.Ok):eu Tryz.prog κ 249 [.agg #[e7 (n.nodes),e7 (n.source),e7 (n.sink),v]] I (λr J=>∃a c f a' c' side val,r = .tuple #[.slice a f.length c,e7 val,.slice a' side.length c']/\BothP n f side/\J=vc 4 (.slice a' side.length c') side::vc 3 (.slice a f.length c) f::I):=by
 have a0:=ab.lim
 have a3:=ab.snk
 have ay:=ab.src
 refine Ce1 Tryz.func249 C C ?_
 refine Ar<|Ge1 (Al (cs:=[_,_,_,_]) C C C) λb1=>Ga C<|Ga C<|Ga C<|As<|Ar<|Gl4 ty282 ?_
 refine G.e (Ac c_ C C<|Solved_ok (n:=n) (Au hl) ab) ?_
 rintro _ _ ⟨_,_,⟨b,hw,ow,lw,nw,f,hs,rs,L,nx,val,rfl,⟨aa,hh,hr⟩,rfl⟩,rfl,rfl⟩
 refine G.fit (J:=e8 b [hw,ow,lw,nw,e7<|n.sink] 315::vc 312 hw (hs)::vc 3 lw (L)::vc 3 nw (nx)::vc 22 ow (rs)::e8 b1 [e7 (n.nodes),e7<|n.source,e7<|n.sink,v] 282::(rowsI rs++I)) Bb ?_
 refine Gm C<|Gr (Bv C C)<|Gr (Bv C C)<|Ga C<|Ga C<|As<|A5<|Ar<|Gf fld282_3 C ?_
 have ax:=aa.flow.len
 have a7:=hh.len
 refine Gl ty280 ?_
 refine Gr (Da (α:=Arc) (xs:=n.arcs) D3 C<|Au hl)<|Gm C<|As<|Bg (S7 17 16 15 3 5 2 1 C C C C C C C)<|Bk<|Cn (σ:=Nat×(Option Addr)×Nat×(List Int)) (λs=>([(1,.pointer<|some ⟨b1,0,none⟩),(2,.slice s.2.1 s.2.2.2.length s.2.2.1),(3,e7 val),(5,.pointer<|some ⟨b,0,none⟩),(15,v),(16,e7 ((n.arcs.length:Nat):Int)),(17,e7 ((s.1:Nat):Int))]:Env)) (λs=>vc 3 (.slice s.2.1 s.2.2.2.length s.2.2.1) (s.2.2.2)::e8 b [hw,ow,lw,nw,e7<|n.sink] 315::vc 312 hw (hs)::vc 3 lw (L)::vc 3 nw (nx)::vc 22 ow (rs)::e8 b1 [e7 (n.nodes),e7<|n.source,e7<|n.sink,v] 282::(rowsI rs++I)) (λs=>(s.1<=n.arcs.length)/\(s.2.2.2=f.take s.1)) (λs=>n.arcs.length - s.1) (0,none,0,[]) ⟨om,rfl⟩ (Ab C<|Ab (El C<|by first|rfl|simp)<|Ab C<|Ab C<|Ab C<|Ab C<|Ab Dg Bs) (Bw _ _) ?_
 rintro ⟨k,a,c,fl⟩ hp
 dsimp only at hp ⊢
 obtain ⟨hk,ao⟩:=hp
 have az:fl.length=k:=by rw [ao,List.length_take];omega
 refine Ar<|Gr (Ch C C)<|As<|A5<|Ap C (λap=>?_)<|λap=>?_
 ·refine Bt (Ay<|A5<|Bk<|Ar<|Gm C<|Gr (Az (α:=Arc) (xs:=n.arcs) D3 ty284 C C (Au hl) om oo)<|Gr (Dt (α:=Arc) (xs:=n.arcs) ty284 C (Au hl) om oo)<|Ge1 (Am ty284 C) λb2=>Ga C<|Ge0 (Es3_3 ty284) ?_)
  have a5:=hh.get (2*(k:Int)) ⟨by omega,by omega⟩
  have a1:=aa.flow.cap k om
  have a8:=arc_at ab (k:=k) om
  have a6:leftH n f (2*(k:Int))=(e_ n.arcs k).cap - e_ f k:=by unfold leftH;rw [if_pos om,show (2*(k:Int)) / 2=(k:Int) from by omega]
  have an:(e_ n.arcs k).cap - (e_ hs<|2*(k:Int)).left=e_ f k:=by omega
  refine As<|A4 mixed<|Cm (e8 b2 [e7 ((e_ n.arcs k).frm),e7<|(e_ n.arcs k).dst,e7<|(e_ n.arcs k).cap] 284::e8 b [hw,ow,lw,nw,e7<|n.sink] 315::vc 312 hw (hs)::vc 3 lw (L)::vc 3 nw (nx)::vc 22 ow (rs)::e8 b1 [e7 (n.nodes),e7<|n.source,e7<|n.sink,v] 282::(rowsI rs++I)) 16<|Dr 0 C (Af C)<|Dr 1 C (Ad fld284_2 C)<|Dr 2 C (Ax ef) ?_
  refine Dr 3 C (Af C)<|Dr 4 C (Bo C)<|Dr 5 C (Ad fld315_0 C)<|Dr 6 C (Ax ty313) ?_
  refine Dr 7 C (Af C)<|Dr 8 C (Ft C C<|by unfold InR;omega)<|Dr 9 C (Az (α:=Half) (xs:=hs) Ck ty312 C C A7 om oo)<|Dr 10 C (Ez (α:=Half) (xs:=hs) fld312_1 C A7 oo)<|Dr 11 C (Fb (α:=Half) (xs:=hs) (u:=e7 ((e_ hs<|2*(k:Int)).left)) ef C A7 om oo C)<|Dr 12 C (Rsu C C)<|Ds1 13<|Se1 C (B9 (α:=Int) (cs:=[_]) (xs:=[((e_ n.arcs k).cap) - ((e_ hs<|2*(k:Int)).left)]) Aa ef C C dc dc C C C C) λa4=>?_
  refine Ds1 14<|Se2 C (B4 (α:=Int) (e:=3) (xs:=fl) (ys:=([((e_ n.arcs k).cap) - ((e_ hs<|2*(k:Int)).left)]:List Int)) Aa ef C C C mm A7 lcn dc C<|λ_ _=>am) λau aw=>?_
  exact Dr 15 C (A0 C)<|Dz<|Av<|Ay<|Bg (S7 2 1 3 5 15 16 17 C C C C C C C)<|Be<|Gr (Rad C C)<|Gm C<|Bi<|B5 ((k+1),(au),(aw),(fl++([((e_ n.arcs k).cap) - ((e_ hs<|2*(k:Int)).left)]:List Int)))<|by dsimp only;exact ⟨om,(by rw [ao,Ct f k om];congr 1;rw [an])⟩
 refine C7<|A9<|A9<|B3<|Ay<|Ar<|Gm C ?_
 have aq:k=n.arcs.length:=by omega
 have ar:fl=f:=by rw [ao,aq,←ax,List.take_length]
 refine Gf fld282_2 C<|Gl ef ?_
 refine G.e (Ac c_ C C<|Cv (J:=e8 b [hw,ow,lw,nw,e7<|n.sink] 315::vc 3 (.slice a fl.length c) (fl)::vc 312 hw (hs)::vc 3 lw (L)::vc 3 nw (nx)::vc 22 ow (rs)::e8 b1 [e7 (n.nodes),e7<|n.source,e7<|n.sink,v] 282::(rowsI rs++I)) Bb<|Reached_ok (n:=n) (rs:=rs) (hs:=hs) ab hh A7 hr A7 (λi h0 h=>Bm (rowsI_sl i h0 h) Ah) om) ?_
 rintro _ _ ⟨_,_,⟨ah,ae,M,rfl,ad,rfl⟩,rfl,rfl⟩
 have aj:=ad.len
 refine Ga C<|As<|A5<|Ar<|Gm C<|Gr (Ca Cq C)<|Gm C<|As<|Bg (S5 44 43 4 2 3 C C C C C)<|Bk<|Cn (σ:=Nat×(List Bool)) (λs=>([(2,.slice a fl.length c),(3,e7 val),(4,.slice ah M.length ae),(43,e7 ((M.length:Nat):Int)),(44,e7 ((s.1:Nat):Int))]:Env)) (λs=>vc 4 (.slice ah M.length ae) (s.2)::e8 b [hw,ow,lw,nw,e7<|n.sink] 315::vc 3 (.slice a fl.length c) (fl)::vc 312 hw (hs)::vc 3 lw (L)::vc 3 nw (nx)::vc 22 ow (rs)::e8 b1 [e7 (n.nodes),e7<|n.source,e7<|n.sink,v] 282::(rowsI rs++I)) (λs=>(s.1<=M.length)/\(s.2.length=M.length)/\(∀i:Nat,i<M.length->e_ s.2 i=if i<s.1 then !e_ M i else e_ M i)) (λs=>M.length - s.1) (0,M) ⟨om,rfl,(λi h=>by rw [if_neg om])⟩ (Ab C<|Ab C<|Ab C<|Ab C<|Ab Dg Bs) Aj ?_
 rintro ⟨k,sd⟩ hp
 dsimp only at hp ⊢
 obtain ⟨hk,ai,ak⟩:=hp
 refine Ar<|Gr (Ch C C)<|As<|A5<|Ap C (λav=>?_)<|λav=>?_
 ·refine Bt (Ay<|A5<|Bk<|Ar<|Gm C<|Ga C<|As<|Be<|Gm C<|Gm C<|Gm C<|Gm C<|Gr (Az (α:=Bool) (xs:=sd) Cq ty4 C C A7 om oo)<|Gr (Runs.getB (xs:=sd) ty4 C A7 om oo)<|Gr (Cd C)<|Gr (Az (α:=Bool) (xs:=sd) Cq ty4 C C A7 om oo)<|Ge0 (Ci (α:=Bool) (xs:=sd) (e:=4) (new:= !e_ sd k) ty4 C C C om oo am) ?_)
  exact Bi<|Av<|Ay<|Bg (S5 2 3 4 43 44 C C C C C)<|Be<|Gr (Rad C C)<|Gm C<|Bi<|B5 ((k+1),(List.set sd ((k:Int)).toNat (!e_ sd k)))<|by dsimp only;exact ⟨om,(by rw [List.length_set];exact ai),(λi h=>by rw [C2 _ _ _ _ om om om];by_cases e:i=k;(· subst e;rw [if_pos rfl,if_pos om,ak i h,if_neg om]);(· rw [if_neg om,ak i h];by_cases h2:i<k;(· rw [if_pos h2,if_pos om]);(· rw [if_neg h2,if_neg om])))⟩
 refine C7<|A9<|A9<|B3<|Ay<|Ar<|Gm C<|Gm C<|Gm C<|Ga C<|Ga C<|Ga C<|As<|Bf ?_
 subst ar
 exact V.ret3 C C C C (vc 4 (.slice ah sd.length ae) sd::vc 3 (.slice a fl.length c) fl::I) (by rw [ai];exact Bb) ⟨a,c,fl,ah,ae,sd,val,by rw [ai],⟨aa.flow,by omega,_,ad.great ab aa,λz h0 h1=>by obtain ⟨i,rfl⟩:∃i:Nat,z=(i:Int):=⟨z.toNat,om⟩;rw [ak i om,if_pos om]⟩,rfl⟩
end Go.Sl
namespace Go.Sl
open Go.Proofs
set_option maxRecDepth 4000
variable{x y:Operand}{i j nd p q u:Int}{E T b by' c k n sz:Nat}{ag:Bool}{z:List Value}{ad:Option Addr}{I':List Item}{W al:BitVec 64}{es:List Pt}{vb ve vk vw:Value}
def setP2(p:Pt)(j:Int)(n:Int):Pt:=if j=0 then {p with u:=n} else {p with v:=n}
section
variable {P:Program}{κ:Ctx}{N:Frm}{Q:Exit->Act->World->Prop}{L:Env}{I J:List Item}
variable {d:Option Tmp}{ty:TypeId}{ps:String}{af:Array Edge}{gd:Option (Nat×Bool)}
theorem Runs.index2{T:TypeId}{v:Int}(h0:∀w:World,(Instr.index T (.agg #[e7 u,e7 v]) (e7 0)).run P w = .ok (e7 u) w)(h1:∀w:World,(Instr.index T (.agg #[e7 u,e7 v]) (e7 1)).run P w = .ok (e7 v) w)
  (hx:er L x=some (.agg #[e7 u,e7 v])) (hy:er L y=some (e7 j)) (hj:j=0\/j=1):Runs P κ N ⟨d,.index T x y,ty,ps,af,gd⟩ L J (e7 (if j=0 then u else v)):=λa w M hs=>by
 rcases hj with rfl|rfl
 ·simp [execOp,M.eval hx,M.eval hy,h0]
 simp [execOp,M.eval hx,M.eval hy,h1]
theorem Runs.idxsV(α:Type)[Enc α](ht:P.underlying T=some (.slice E))(hE:tyF P E=some (Enc.sz α,ag,by',z))(hx:er L x=some (.slice ad n c))
  (hy:er L y=some (e7 i)) (M:ad≠none) (h0:0<=i) (hn:i<n):Runs P κ N ⟨d,.indexAddr T x y,ty,ps,af,gd⟩ L J (elemPtr (.slice ad n c)<|i.toNat*Enc.sz α):=by
 cases ad with
 |none=>exact absurd rfl M
 |some ad=>exact λa w M hs=>by simp [execOp,M.eval hx,M.eval hy,Instr.indexAt,asIntOf,run_underlying ht,h0,hn,run_sizeOf hE,elemPtr]
theorem Runs.idxElF{m n':Nat}(ht:P.underlying T=some (.array n E))(hE:tyF P E=some (sz,ag,by',z))(hx:er L x=some (elemPtr (.slice ad n' c) m))
  (hy:er L y=some (e7 i)) (M:ad≠none) (h0:0<=i) (hn:i<n):Runs P κ N ⟨d,.indexAddr T x y,ty,ps,af,gd⟩ L J (elemPtr (.slice ad n' c)<|m+i.toNat*sz):=by
 cases ad with
 |none=>exact absurd rfl M
 |some ad=>
  have e:(ad.add m).add (i.toNat*sz)=ad.add (m+i.toNat*sz):=by
   generalize i.toNat*sz=q
   unfold Addr.add
   by_cases h1:m=0<;>by_cases h2:q=0<;>simp [h1,h2,Nat.add_assoc]
  exact λa w M hs=>by simp [execOp,M.eval hx,M.eval hy,elemPtr,Instr.indexAt,asIntOf,run_underlying ht,h0,hn,run_sizeOf hE,Instr.sureAddr,e]
theorem Eff.setP2{xs:List Pt}{e:Nat}{v:Value}{n:Int}(hT:tyF P T=some (1,false,by',z))(hx:er L x=some (elemPtr v (i.toNat*Enc.sz Pt+j.toNat*1)))(hy:er L y=some (e7 n))(hj:j=0\/j=1)
  (h0:0<=i) (hn:i<xs.length) (M:At I (vc e v xs) (vc e v<|xs.set i.toNat<|setP2 (e_ xs i) j n) I'):Eff P κ N Q ⟨none,.store T x y,ty,ps,af,gd⟩ L I λL' I''=>L'=L/\I''=I':=by
 rcases hj with rfl|rfl
 ·exact Eff.setf (e:=e) (new:={e_ xs i with u:=n}) (j:=0) hT hx hy C C dc C h0 hn M
 exact Eff.setf (e:=e) (new:={e_ xs i with v:=n}) (j:=1) hT hx hy C C dc C h0 hn M
theorem Eff.setC2{n:Int}(hT:tyF P T=some (sz,ag,by',z))(ab:sz=1)(hx:er L x=some (.pointer (some ⟨b,0+j.toNat*1,none⟩)))(hy:er L y=some (e7 n))(hj:j=0\/j=1)
  (aa:At I (e8 b [e7 p,e7 q] E) (e8 b [e7 (if j=0 then n else p),e7 (if j=0 then q else n)] E) I'):Eff P κ N Q ⟨none,.store T x y,ty,ps,af,gd⟩ L I λL' I''=>L'=L/\I''=I':=by
 rcases hj with rfl|rfl
 ·exact Eff.store (vs:=[e7 n]) hT hx hy C (by rw [ab];rfl) (λu M=>by rw [List.mem_singleton] at M;subst M;rfl) (by simp) C aa
 exact Eff.store (vs:=[e7 n]) hT hx hy C (by rw [ab];rfl) (λu M=>by rw [List.mem_singleton] at M;subst M;rfl) (by simp) C aa
end
theorem ix2a(u v:Int)(w:World):(Instr.index 207 (.agg #[e7 u,e7 v]) (e7 0)).run Tryz.prog w = .ok (e7 u) w:=by kernel_rfl
theorem ix2b(u v:Int)(w:World):(Instr.index 207 (.agg #[e7 u,e7 v]) (e7 1)).run Tryz.prog w = .ok (e7 v) w:=by kernel_rfl
structure PlainP (nd:Int) (es:List Pt) (ws bs cs:List Int):Prop where
 wl:ws.length=es.length
 w1:∀i:Nat,i<es.length->e_ ws i=1
 bl:bs.length=nd.toNat
 b0:∀i:Int,0<=i->i<nd->e_ bs i=0
 cl:cs.length=nd.toNat
 c1:∀i:Int,0<=i->i<nd->e_ cs i=1
theorem bit_mem(M:0<=u)(h1:u<64):W &&& bitB u≠0#64↔W.getLsbD u.toNat=true:=by
 have hb:bitB u=0#64 ||| 1#64 <<< u.toNat:=by rw [BitVec.zero_or];exact bit_sh M h1
 rw [hb]
 constructor
 ·intro h
  obtain ⟨x,hx⟩:=nz_listB.1 h
  rw [mem_andB,mem_orbit M h1,Dh] at hx
  rcases hx.2 with h2|h2
  ·cases h2
  rw [←h2];exact (mem_listB.1 hx.1).2
 intro h
 exact nz_listB.2 ⟨u,mem_andB.2 ⟨mem_listB.2 ⟨M,h⟩,(mem_orbit M h1).2 (.inr rfl)⟩⟩
theorem bit_all(h0:0<=u)(h1:u<nd)(M:nd<=64):(bitB u &&& allB nd) &&& ~~~0#64≠0#64:=by
 rw [BitVec.not_zero,BitVec.and_allOnes,BitVec.and_comm]
 exact (bit_mem h0 om).2 (by rw [getLsb_allB om M om,decide_eq_true_eq];omega)
theorem insE_yes(hk:k<es.length)(M:(0<=(e_ es k).u/\(e_ es k).u<64)/\0<=(e_ es k).v/\(e_ es k).v<64)(h1:W &&& bitB (e_ es k).u≠0#64)(h2:W &&& bitB (e_ es k).v≠0#64):insE W (es.take (k+1))=insE W (es.take k)+1:=by
 rw [insE_take hk,(bit_mem M.1.1 M.1.2).1 h1,(bit_mem M.2.1 M.2.2).1 h2];rfl
theorem insE_no(hk:k<es.length)(M:(0<=(e_ es k).u/\(e_ es k).u<64)/\0<=(e_ es k).v/\(e_ es k).v<64)(h:¬W &&& bitB (e_ es k).u≠0#64\/¬W &&& bitB (e_ es k).v≠0#64):insE W (es.take (k+1))=insE W (es.take k):=by
 rw [insE_take hk]
 rcases h with h|h
 ·rw [bit_mem M.1.1 M.1.2,Bool.not_eq_true] at h
  rw [h];simp
 rw [bit_mem M.2.1 M.2.2,Bool.not_eq_true] at h
 rw [h];simp
theorem flat_succ{α:Type}(f:Nat->List α)(k:Nat):(List.range (k+1)).flatMap f=(List.range k).flatMap f++f k:=by
 rw [List.range_succ,List.flatMap_append];simp
section
attribute [local irreducible] W G V D A Runs Eff
theorem Gain_ok{κ:Ctx}{I:List Item}{ws bs cs:List Int}(hl:Sl κ I ve es)(hw:Sl κ I vw ws)(hb:Sl κ I vb bs)(a0:Sl κ I vk cs)(hG:GrOk nd es)(hm:es.length<=2016)(hP:PlainP nd es ws bs cs)(wb:BitVec 64)(hW:subN nd wb)(hT:TabRd κ I 0 tzCells):eu Tryz.prog κ 213 [.agg #[ve,vw,vb,vk,U64 al,U64 (0#64)],U64 wb] I (λr J=>r = .tuple #[e7 (insE wb es),e7 (cntB wb)]/\I=J):=by
 have au:=hG.rng
 have a1:=hP.wl
 have ax:=hP.bl
 have aw:=hP.cl
 refine Ce2 Tryz.func213 C C ?_
 refine Ar<|Ge1 (Al (cs:=[_,_,_,_,_,_]) C C C) λb1=>Z ?_
 refine Cn (σ:=Nat) (λs=>([(1,U64 wb),(2,.pointer<|some ⟨b1,0,none⟩),(4,e7<|insE wb<|es.take s),(5,e7 0),(11,ve),(12,e7 ((es.length:Nat):Int)),(13,e7 ((s:Nat):Int))]:Env)) (λs=>e8 b1 [ve,vw,vb,vk,U64 al,U64<|0#64] 172::I) (λs=>(s<=es.length)) (λs=>es.length - s) 0 (show ((0:Nat)<=es.length) from om) (Ab C<|Ab C<|Ab (Dk C<|by first|omega|(dsimp only<;>omega)|exact insE_yes aa M ad ab|exact (insE_yes aa M ad ab).symm|exact insE_no aa M (.inl ad)|exact insE_no aa M (.inr ab)|exact (insE_no aa M<|.inl ad).symm|exact (insE_no aa M<|.inr ab).symm|rfl)<|Ab C<|Ab C<|Ab C<|Ab (Dk C<|by first|omega|(dsimp only<;>omega)|exact insE_yes aa M ad ab|exact (insE_yes aa M ad ab).symm|exact insE_no aa M (.inl ad)|exact insE_no aa M (.inr ab)|exact (insE_no aa M<|.inl ad).symm|exact (insE_no aa M<|.inr ab).symm|rfl) Bs) Aj ?_
 rintro k hp
 have hk:=hp
 have ar:=insE_bd wb (es.take k)
 have av:(es.take k).length<=k:=by rw [List.length_take];omega
 refine Z ?_
 refine Ap C (λao=>Z ?_)<|λao=>Z ?_
 ·have aa:k<es.length:=by omega
  have ay:=hG.edge (e_ es k) (Bx om om)
  have M:(0<=(e_ es k).u/\(e_ es k).u<64)/\0<=(e_ es k).v/\(e_ es k).v<64:=by omega
  refine Z ?_
  refine Ge1 (Am ty95 C) λb2=>Ga C<|Ge0 (Cf ty95)<|Z ?_
  refine G.e (Ac c_ C C<|Bit_ok<|(e_ es k).u) ?_
  rintro _ _ ⟨_,_,⟨rfl,rfl⟩,rfl,rfl⟩
  refine Gr (Cz (a:=wb) (b:=bitB ((e_ es k).u)) C C)<|Gr (Eo (a:=wb &&& (bitB<|(e_ es k).u)) (b:=0#64) C C)<|Gm C<|A6 (d:=24) C (λad=>Z ?_)<|λad=>Z ?_
  ·refine Dn (B7 C C C) (Ac c_ C C<|Bit_ok<|(e_ es k).v) ?_
   rintro _ _ ⟨_,_,⟨rfl,rfl⟩,rfl,rfl⟩
   refine e9 (Cz (a:=wb) (b:=bitB ((e_ es k).v)) C C)<|e9 (Eo (a:=wb &&& (bitB<|(e_ es k).v)) (b:=0#64) C C)<|Z ?_
   refine Ap C (λab=>Z ?_)<|λab=>Z ?_
   ·rw [hP.w1 k aa]
    refine Z ?_
    exact B5 ((k+1)) om (hL:=(Ab C<|Ab C<|Ab (Dk C<|by first|omega|(dsimp only<;>omega)|exact insE_yes aa M ad ab|exact (insE_yes aa M ad ab).symm|exact insE_no aa M (.inl ad)|exact insE_no aa M (.inr ab)|exact (insE_no aa M<|.inl ad).symm|exact (insE_no aa M<|.inr ab).symm|rfl)<|Ab C<|Ab C<|Ab C<|Ab (Dk C<|by first|omega|(dsimp only<;>omega)|exact insE_yes aa M ad ab|exact (insE_yes aa M ad ab).symm|exact insE_no aa M (.inl ad)|exact insE_no aa M (.inr ab)|exact (insE_no aa M<|.inl ad).symm|exact (insE_no aa M<|.inr ab).symm|rfl) Bs))
   exact B5 ((k+1)) om (hL:=(Ab C<|Ab C<|Ab (Dk C<|by first|omega|(dsimp only<;>omega)|exact insE_yes aa M ad ab|exact (insE_yes aa M ad ab).symm|exact insE_no aa M (.inl ad)|exact insE_no aa M (.inr ab)|exact (insE_no aa M<|.inl ad).symm|exact (insE_no aa M<|.inr ab).symm|rfl)<|Ab C<|Ab C<|Ab C<|Ab (Dk C<|by first|omega|(dsimp only<;>omega)|exact insE_yes aa M ad ab|exact (insE_yes aa M ad ab).symm|exact insE_no aa M (.inl ad)|exact insE_no aa M (.inr ab)|exact (insE_no aa M<|.inl ad).symm|exact (insE_no aa M<|.inr ab).symm|rfl) Bs))
  exact B5 ((k+1)) om (hL:=(Ab C<|Ab C<|Ab (Dk C<|by first|omega|(dsimp only<;>omega)|exact insE_yes aa M ad ab|exact (insE_yes aa M ad ab).symm|exact insE_no aa M (.inl ad)|exact insE_no aa M (.inr ab)|exact (insE_no aa M<|.inl ad).symm|exact (insE_no aa M<|.inr ab).symm|rfl)<|Ab C<|Ab C<|Ab C<|Ab (Dk C<|by first|omega|(dsimp only<;>omega)|exact insE_yes aa M ad ab|exact (insE_yes aa M ad ab).symm|exact insE_no aa M (.inl ad)|exact insE_no aa M (.inr ab)|exact (insE_no aa M<|.inl ad).symm|exact (insE_no aa M<|.inr ab).symm|rfl) Bs))
 have ah:es.take k=es:=List.take_of_length_le om
 rw [ah]
 refine Gc2 (Ac c_ C C<|MList_ok wb<|A8 hT Ah) λai aj=>Z ?_
 refine Cn (σ:=Nat) (λs=>([(2,.pointer<|some ⟨b1,0,none⟩),(4,e7<|insE wb es),(5,e7 ((s:Nat):Int)),(41,.slice ai (eo wb).length aj),(42,e7<|(((eo wb).length:Nat):Int)),(43,e7 ((s:Nat):Int))]:Env)) (λs=>vc 3 (.slice ai (eo wb).length aj) (eo wb)::e8 b1 [ve,vw,vb,vk,U64 al,U64<|0#64] 172::I) (λs=>(s<=(eo wb).length)) (λs=>(eo wb).length - s) 0 om (Ab C<|Ab C<|Ab (Dk C<|by first|omega|(dsimp only<;>omega)|exact insE_yes aa M ad ab|exact (insE_yes aa M ad ab).symm|exact insE_no aa M (.inl ad)|exact insE_no aa M (.inr ab)|exact (insE_no aa M<|.inl ad).symm|exact (insE_no aa M<|.inr ab).symm|rfl)<|Ab C<|Ab C<|Ab (Dk C<|by first|omega|(dsimp only<;>omega)|exact insE_yes aa M ad ab|exact (insE_yes aa M ad ab).symm|exact insE_no aa M (.inl ad)|exact insE_no aa M (.inr ab)|exact (insE_no aa M<|.inl ad).symm|exact (insE_no aa M<|.inr ab).symm|rfl) Bs) Aj ?_
 rintro k hp
 have hk:=hp
 have ar:=insE_bd wb es
 have az:=Ee wb
 have an:k<(eo wb).length->0<=(e_ (eo wb) k)/\(e_ (eo wb) k)<nd:=λh=>by have ak:=Bx (xs:=eo wb) (i:=(k:Int)) om om;have h1:=Fo ak;have h2:=hW _ ak;omega
 refine Z ?_
 refine Ap C (λaq=>Z ?_)<|λaq=>Z ?_
 ·have ae:=an om
  refine Z ?_
  rw [hP.b0 (e_ (eo wb) k) ae.1 ae.2]
  refine Z ?_
  rw [hP.c1 (e_ (eo wb) k) ae.1 ae.2]
  refine Z ?_
  exact B5 ((k+1)) om (hL:=(Ab C<|Ab (Dk C<|by first|omega|(dsimp only<;>omega)|exact insE_yes aa M ad ab|exact (insE_yes aa M ad ab).symm|exact insE_no aa M (.inl ad)|exact insE_no aa M (.inr ab)|exact (insE_no aa M<|.inl ad).symm|exact (insE_no aa M<|.inr ab).symm|rfl)<|Ab (Dk C<|by first|omega|(dsimp only<;>omega)|exact insE_yes aa M ad ab|exact (insE_yes aa M ad ab).symm|exact insE_no aa M (.inl ad)|exact insE_no aa M (.inr ab)|exact (insE_no aa M<|.inl ad).symm|exact (insE_no aa M<|.inr ab).symm|rfl)<|Ab C<|Ab C<|Ab (Dk C<|by first|omega|(dsimp only<;>omega)|exact insE_yes aa M ad ab|exact (insE_yes aa M ad ab).symm|exact insE_no aa M (.inl ad)|exact insE_no aa M (.inr ab)|exact (insE_no aa M<|.inl ad).symm|exact (insE_no aa M<|.inr ab).symm|rfl) Bs))
 have ap:(k:Int)=cntB wb:=by unfold cntB;omega
 exact Cy C C C I Ah ⟨by rw [ap],rfl⟩
end
section
attribute [local irreducible] W G V D A Runs Eff
theorem Arc_ok{κ:Ctx}{I:List Item}{nn:Int}{a:Option Addr}{arcs:List Arc}(f t m:Int)(hlen:arcs.length<=100000):eu Tryz.prog κ 248 [e7 f,e7 t,e7 m,.pointer (some ⟨b,0,none⟩)] (e8 b [e7 nn,e7 0,e7 1,.slice a arcs.length c] 282::vc 284 (.slice a arcs.length c) (arcs)::I) (λr J=>∃a2 c2,r=e7 ((arcs.length:Nat):Int)/\J=e8 b [e7 nn,e7 0,e7 1,.slice a2 (arcs++[(⟨f,t,m⟩:Arc)]).length c2] 282::vc 284 (.slice a2 (arcs++[(⟨f,t,m⟩:Arc)]).length c2) (arcs++[(⟨f,t,m⟩:Arc)])::I):=by
 refine Ce4 Tryz.func248 C C<|Z ?_
 refine Ge1 (B9 (α:=Arc) (cs:=[_,_,_]) (xs:=[⟨f,t,m⟩]) D3 ty284 C C dc dc C C C C) λad=>?_
 refine Ge2 (B4 (α:=Arc) (e:=284) (xs:=arcs) (ys:=([⟨f,t,m⟩]:List Arc)) D3 ty284 C C C mm A7 lcn dc C<|λ_ _=>am) λaa M=>?_
 refine Gf fld282_3 C<|Ge0 (A3 (cs:=[_,_,_,_]) (vs:=[_]) (cs':=[_,_,_,_]) ty280)<|Z ?_
 refine Gr (Runs.sub C C<|by unfold InR;simp only [List.length_append,List.length_cons,List.length_nil];omega)<|Z ?_
 have ab:(((arcs++[(⟨f,t,m⟩:Arc)]).length:Nat):Int) - 1=((arcs.length:Nat):Int):=by simp only [List.length_append,List.length_cons,List.length_nil];omega
 exact Ai C C (e8 b [e7 nn,e7 0,e7 1,.slice aa (arcs++[(⟨f,t,m⟩:Arc)]).length M] 282::vc 284 (.slice aa (arcs++[(⟨f,t,m⟩:Arc)]).length M) (arcs++[(⟨f,t,m⟩:Arc)])::I) Bb ⟨aa,M,by rw [ab],rfl⟩
end
section
attribute [local irreducible] W G V D A Runs Eff
theorem Part_ok{κ:Ctx}{I:List Item}{ve vw vb vk vf:Value}{al:BitVec 64}{fl:List Int}{p q i total:Int}(hf:Sl κ I vf fl)(hp:p<fl.length)(hq:q<fl.length)(hb:∀x∈fl,0<=x/\x<=4096)(ht:0<=total/\total<=4096):eu Tryz.prog κ 250 [.agg #[ve,vw,vb,vk,U64 al,U64 (0#64)],e7 i,.agg #[e7 p,e7 q],vf,e7 total] I (λr J=>∃x:Int,r=e7 x/\(0<=p->0<=q->x=total - e_ fl q)/\I=J):=by
 refine Ce5 Tryz.func250 C C ?_
 refine Ar (Ge1 (Al (cs:=[_,_,_,_,_,_]) C C C) λb1=>Ge1 (Al (cs:=[_,_]) C C C) λb2=>Ga C (As (Ar (Ge1 (Am ty207 C) λb3=>Z ?_))))
 refine D7 (σ:=Nat×Int×Int) (λs=>[(16,e7 ((s.1:Nat):Int))]) (λs=>[e8 b3 [e7 (s.2.1),e7 (s.2.2)] 207]) (λs=>(s.1<=2)/\(0<=s.2.1/\s.2.1<=4096)/\(0<=s.2.2/\s.2.2<=4096)/\(0<=p->0<=q->2<=s.1->s.2.2=e_ fl q)) (λs=>2 - s.1) (0,0,0) (show ((0:Nat)<=2)/\(0<=(0:Int)/\(0:Int)<=4096)/\(0<=(0:Int)/\(0:Int)<=4096)/\(0<=p->0<=q->2<=(0:Nat)->(0:Int)=e_ fl q) from ⟨om,om,om,(λ_ _ h=>by omega)⟩) ?_
 rintro ⟨j,e0,e1⟩ hp
 dsimp only at hp ⊢
 obtain ⟨hj,he0,he1,he2⟩:=hp
 have hpq:(if (j:Int)=0 then p else q)<fl.length:=by split<;>assumption
 refine Z ?_
 refine Ap C (λc17=>Z ?_) (λc17=>Z ?_)
 ·refine Gr (Runs.index2 (ix2a _ _) (ix2b _ _) C C om) (Z ?_)
  refine Ap C (λc21=>Z ?_) (λc21=>Z ?_)
  ·have hvx:=hb _ (Bx (xs:=fl) (i:=(if (j:Int)=0 then p else q)) om om)
   have hxe:j=1->e_ fl (if (j:Int)=0 then p else q)=e_ fl q:=λh=>by rw [if_neg om]
   generalize e_ fl (if (j:Int)=0 then p else q)=xv at hvx hxe ⊢
   refine Gr (Cb Bz ty2 C C om om) (Ge0 (Eff.setC2 (p:=e0) (q:=e1) (j:=(j:Int)) (n:=xv) ef C C C om am) (Z ?_))
   exact B5 ((j+1),(if (j:Int)=0 then xv else e0),(if (j:Int)=0 then e1 else xv)) (by dsimp only;exact ⟨om,(by first|exact he0|(split<;>first|exact he0|exact hvx)),(by first|exact he1|(split<;>first|exact he1|exact hvx)),(λh1 h2 h3=>by first|(rw [if_neg om];exact hxe om)|(exfalso;rcases (show j=0\/j=1 by omega) with e|e<;>subst e<;>simp at c21<;>omega))⟩)
  exact B5 ((j+1),(e0),(e1)) (by dsimp only;exact ⟨om,(by first|exact he0|(split<;>first|exact he0|exact hvx)),(by first|exact he1|(split<;>first|exact he1|exact hvx)),(λh1 h2 h3=>by first|(rw [if_neg om];exact hxe om)|(exfalso;rcases (show j=0\/j=1 by omega) with e|e<;>subst e<;>simp at c21<;>omega))⟩)
 refine Gr (Cb Bz ty2 C C om om) (Z ?_)
 refine Gr (Cb Bz ty2 C C om om) (Z ?_)
 refine Gr (Cb Bz ty2 C C om om) (Z ?_)
 refine A6 (d:=39) C (λg39=>?_) (λg39=>Z ?_)
 ·refine e9 (Cb Bz ty2 C C om om) (Z ?_)
  refine Ap C (λc43=>Z ?_) (λc43=>?_)
  ·refine Gr (Cb Bz ty2 C C om om) (Z ?_)
   exact Ai C C I Ah ⟨_,rfl,λh1 h2=>by have h3:=he2 h1 h2 om;omega,rfl⟩
  refine Bt (Ay (Ar (Gr (Cb Bz ty2 C C om om) (Z ?_))))
  exact Ai C C I Ah ⟨_,rfl,λh1 h2=>by have h3:=he2 h1 h2 om;omega,rfl⟩
 refine Gr (Cb Bz ty2 C C om om) (Z ?_)
 exact Ai C C I Ah ⟨_,rfl,λh1 h2=>by have h3:=he2 h1 h2 om;omega,rfl⟩
end
end Go.Sl
/- The densest set's proof: at the last price every edge is given away whole, and no node is given more than the price. No Go. No conditions. -/
namespace Go.Sl
def loadS(es:List Pt)(D:Int)(parts:List Int)(v:Int):Int:=sumN es.length λi=>(if (e_ es i).u=v then e_ parts i else 0)+(if (e_ es i).v=v then D - e_ parts i else 0)
structure SplitP (nd N D:Int) (es:List Pt) (parts:List Int):Prop where
 len:parts.length=es.length
 rng:∀i:Nat,i<es.length->0<=e_ parts i/\e_ parts i<=D
 load:∀v:Int,0<=v->v<nd->loadS es D parts v<=N
def edgF(nd:Int)(f:List Int)(i j:Nat):Int:=e_ f ((nd.toNat*2+(3*i+j):Nat):Int)
structure PartsP (nd N D:Int) (es:List Pt) (B:BitVec 64) (parts:List Int):Prop where
 len:parts.length=es.length
 flow:∃f,IsFlow (denseNet nd N D es) f/\N*cntB B+D*((es.length:Int) - insE B es)<=netF (denseNet nd N D es) f 0/\∀i:Nat,i<es.length->e_ parts i=D - edgF nd f i 2
theorem flat_at{α:Type}[Inhabited α](f:Nat->List α)(c:Nat)(h:∀i,(f i).length=c)(i j:Nat)(hj:j<c):∀n:Nat,i<n->e_ ((List.range n).flatMap f) ((c*i+j:Nat):Int)=e_ (f i) j
 |0,hi=>by omega
 |n+1,hi=>by
  have hl:=flat_len f c h n
  have M:∀m:Nat,i<m->c*i+j<m*c:=λm hm=>by
   have h1:c*(i+1)<=c*m:=Nat.mul_le_mul_left c hm
   rw [Nat.mul_succ,Nat.mul_comm c m] at h1;omega
  have hb:=M (n+1) hi
  have ab:=flat_len f c h (n+1)
  rw [Cx _ _ (by rw [ab];exact hb),Cx _ _<|by rw [h];exact hj]
  have e1:(List.range<|n+1).flatMap f=(List.range n).flatMap f++f n:=by rw [List.range_succ,List.flatMap_append];simp
  by_cases hin:i<n
  ·have ih:=flat_at f c h i j hj n hin
   rw [Cx _ _ (by rw [hl];exact M n hin),Cx _ _<|by rw [h];exact hj] at ih
   rw [←ih]
   simp only [e1]
   rw [List.getElem_append_left (by rw [hl];exact M n hin)]
  have ad:i=n:=by omega
  subst ad
  have aa:((List.range i).flatMap f).length<=c*i+j:=by rw [hl,Nat.mul_comm];omega
  simp only [e1]
  rw [List.getElem_append_right aa]
  congr 1
  rw [hl,Nat.mul_comm];omega
theorem sumN_app(a:Nat)(g:Nat->Int):∀b:Nat,sumN (a+b) g=sumN a g+sumN b (λi=>g (a+i))
 |0=>by simp [sumN]
 |b+1=>by
  show sumN (a+b+1) g=_
  simp only [sumN]
  rw [sumN_app a g b];omega
theorem sumN_two(g:Nat->Int):∀a:Nat,sumN (a*2) g=sumN a λv=>g (2*v)+g (2*v+1)
 |0=>rfl
 |a+1=>by
  have e:(a+1)*2=a*2+1+1:=by omega
  rw [e]
  simp only [sumN]
  rw [sumN_two g a,Nat.mul_comm a 2];omega
theorem sumN_three(g:Nat->Int):∀a:Nat,sumN (a*3) g=sumN a λv=>g (3*v)+g (3*v+1)+g (3*v+2)
 |0=>rfl
 |a+1=>by
  have e:(a+1)*3=a*3+1+1+1:=by omega
  rw [e]
  simp only [sumN]
  rw [sumN_three g a,Nat.mul_comm a 3]
  have M:3*a+1+1=3*a+2:=rfl
  rw [M];omega
section
variable {nd N D:Int}{es:List Pt}
theorem arc_node{v j:Nat}(hv:v<nd.toNat)(hj:j<2):e_ (denseArcs nd N D es) ((2*v+j:Nat):Int)=e_ (nodeArcs N v) j:=by
 have M:=flat_len (nodeArcs N) 2 (λ_=>rfl) nd.toNat
 have h:=flat_at (nodeArcs N) 2 (λ_=>rfl) v j hj nd.toNat hv
 rw [←h]
 unfold denseArcs
 rw [Cx _ _ (by rw [List.length_append,M];omega),Cx _ _<|by rw [M];omega,List.getElem_append_left<|by rw [M];omega]
theorem arc_edge{i j:Nat}(hi:i<es.length)(hj:j<3):e_ (denseArcs nd N D es) ((nd.toNat*2+(3*i+j):Nat):Int)=e_ (edgeArcs nd D es i) j:=by
 have hl:=flat_len (nodeArcs N) 2 (λ_=>rfl) nd.toNat
 have M:=flat_len (edgeArcs nd D es) 3 (λ_=>rfl) es.length
 have h:=flat_at (edgeArcs nd D es) 3 (λ_=>rfl) i j hj es.length hi
 rw [←h]
 unfold denseArcs
 rw [Cx _ _ (by rw [List.length_append,hl,M];omega),Cx _ _<|by rw [M];omega,List.getElem_append_right<|by rw [hl];omega]
 congr 1
 rw [hl];omega
theorem net_dense(f:List Int)(z:Int):netF (denseNet nd N D es) f z =
  sumN nd.toNat (λv=>((if 0=z then e_ f ((2*v:Nat):Int) else 0) - (if 2+(v:Int)=z then e_ f ((2*v:Nat):Int) else 0))+((if 2+(v:Int)=z then e_ f ((2*v+1:Nat):Int) else 0) - (if 1=z then e_ f ((2*v+1:Nat):Int) else 0)))
  + sumN es.length (λi=>((if 0=z then edgF nd f i 0 else 0) - (if 2+nd+(i:Int)=z then edgF nd f i 0 else 0))+((if 2+nd+(i:Int)=z then edgF nd f i 1 else 0) - (if 2+(e_ es i).u=z then edgF nd f i 1 else 0))+((if 2+nd+(i:Int)=z then edgF nd f i 2 else 0) - (if 2+(e_ es i).v=z then edgF nd f i 2 else 0))):=by
 unfold netF
 have el:(denseNet nd N D es).arcs.length=nd.toNat*2+es.length*3:=denseArcs_len nd N D es
 have ea:(denseNet nd N D es).arcs=denseArcs nd N D es:=rfl
 rw [el,sumN_app,sumN_two,sumN_three,ea]
 congr 1
 ·refine Db _ λv hv=>?_
  have M:=arc_node (N:=N) (D:=D) (es:=es) (j:=0) hv dc
  have h1:=arc_node (N:=N) (D:=D) (es:=es) (j:=1) hv dc
  rw [Nat.add_zero] at M
  rw [M,h1]
  rfl
 refine Db _ λi hi=>?_
 have M:=arc_edge (nd:=nd) (N:=N) (D:=D) (j:=0) hi dc
 have h1:=arc_edge (nd:=nd) (N:=N) (D:=D) (j:=1) hi dc
 have h2:=arc_edge (nd:=nd) (N:=N) (D:=D) (j:=2) hi dc
 rw [Nat.add_zero] at M
 rw [M,h1,h2]
 rfl
theorem splitP_of(hG:GrOk nd es)(hN:0<=N){B:BitVec 64}{parts:List Int}(h:PartsP nd N D es B parts)(hle:insE B es*D<=N*cntB B):SplitP nd N D es parts:=by
 obtain ⟨f,hf,hval,hp⟩:=h.flow
 have hr:=hG.rng
 have ea:(denseNet nd N D es).arcs=denseArcs nd N D es:=rfl
 have el:(denseNet nd N D es).arcs.length=nd.toNat*2+es.length*3:=denseArcs_len nd N D es
 have cn:∀v:Nat,v<nd.toNat->e_ f ((2*v:Nat):Int)=0/\e_ f ((2*v+1:Nat):Int)<=N:=λv hv=>by
  have a0:=hf.cap (2*v) om
  have a1:=hf.cap (2*v+1) om
  have h0:=arc_node (N:=N) (D:=D) (es:=es) (j:=0) hv dc
  rw [Nat.add_zero] at h0
  rw [ea,h0] at a0
  rw [ea,arc_node hv dc] at a1
  have e0:(e_ (nodeArcs N v) ((0:Nat):Int)).cap=0:=rfl
  have e1:(e_ (nodeArcs N v) ((1:Nat):Int)).cap=N:=rfl
  omega
 have ce:∀i:Nat,i<es.length->∀j:Nat,j<3->0<=edgF nd f i j/\edgF nd f i j<=D:=λi hi j hj=>by
  have a:=hf.cap (nd.toNat*2+(3*i+j)) om
  rw [ea,arc_edge hi hj] at a
  have e:(e_ (edgeArcs nd D es i) j).cap=D:=by
   rcases (show j=0\/j=1\/j=2 by omega) with rfl|rfl|rfl<;>rfl
  rw [e] at a;exact a
 -- the arcs out of the source are full
 have hfull:∀i:Nat,i<es.length->edgF nd f i 0=D:=by
  have hs:netF (denseNet nd N D es) f 0=sumN es.length λi=>edgF nd f i 0:=by
   rw [net_dense]
   rw [Fx (m:=nd.toNat) λv hv=>by
    rw [if_pos rfl,if_neg om,if_neg om,if_neg om,(cn v hv).1];rfl]
   rw [Int.zero_add]
   refine Db _ λi hi=>?_
   have he:=hG.edge (e_ es i) (Bx om om)
   rw [if_pos rfl,if_neg om,if_neg om,if_neg om,if_neg om,if_neg om];omega
  have hc:sumN es.length (λ_=>D)=D*es.length:=by
   have:∀m:Nat,sumN m (λ_=>D)=D*m:=λm=>by
    induction m with
    |zero=>simp [sumN]
    |succ m ih=>simp only [sumN];rw [ih];push_cast;rw [Int.mul_add,Int.mul_one]
   exact this _
  have h1:=sumN_le es.length (g:=λi=>edgF nd f i 0) (h:=λ_=>D) λi hi=>(ce i hi 0 dc).2
  have e1:D*((es.length:Int) - insE B es)=D*es.length - D*insE B es:=Int.mul_sub _ _ _
  have e2:insE B es*D=D*insE B es:=Int.mul_comm _ _
  exact sumN_eq_terms es.length (λi hi=>(ce i hi 0 dc).2) om
 -- what comes to an edge goes to its ends
 have hcons:∀i:Nat,i<es.length->edgF nd f i 1+edgF nd f i 2=D:=λi hi=>by
  have h0:=hf.cons (2+nd+(i:Int)) om (by show 2+nd+(i:Int)<2+nd+(es.length:Int);omega) (by show 2+nd+(i:Int)≠0;omega) (by show 2+nd+(i:Int)≠1;omega)
  rw [net_dense] at h0
  rw [Fx (m:=nd.toNat) λv hv=>by
    rw [if_neg om,if_neg om,if_neg om,if_neg om];rfl] at h0
  rw [Int.zero_add] at h0
  rw [Db (h:=λk=>if k=i then edgF nd f i 1+edgF nd f i 2 - edgF nd f i 0 else 0) _ λk hk=>by
    have he:=hG.edge (e_ es k) (Bx om om)
    by_cases e:k=i
    ·subst e
     rw [if_neg om,if_pos rfl,if_pos rfl,if_neg om,if_pos rfl,if_neg om,if_pos rfl];omega
    rw [if_neg om,if_neg om,if_neg om,if_neg om,if_neg om,if_neg om,if_neg e];rfl] at h0
  rw [sumN_at hi] at h0
  have:=hfull i hi
  omega
 refine ⟨h.len,λi hi=>?_,λv h0 h1=>?_⟩
 ·have:=ce i hi 2 dc
  rw [hp i hi];omega
 have hv:=hf.cons (2+v) om (by show 2+v<2+nd+(es.length:Int);omega) (by show 2+v≠0;omega) (by show 2+v≠1;omega)
 rw [net_dense] at hv
 obtain ⟨w,rfl⟩:=Int.eq_ofNat_of_zero_le h0
 rw [Db (h:=λk=>if k=w then e_ f ((2*w+1:Nat):Int) else 0) _ λk hk=>by
   by_cases e:k=w
   ·subst e
    rw [if_neg om,if_pos rfl,if_pos rfl,if_neg om,if_pos rfl,(cn k hk).1];omega
   rw [if_neg om,if_neg om,if_neg om,if_neg om,if_neg e];rfl] at hv
 rw [sumN_at om] at hv
 have hl:loadS es D parts (w:Int)+sumN es.length (λi=>((if 0=2+(w:Int) then edgF nd f i 0 else 0) - (if 2+nd+(i:Int)=2+(w:Int) then edgF nd f i 0 else 0))+((if 2+nd+(i:Int)=2+(w:Int) then edgF nd f i 1 else 0) - (if 2+(e_ es i).u=2+(w:Int) then edgF nd f i 1 else 0))+((if 2+nd+(i:Int)=2+(w:Int) then edgF nd f i 2 else 0) - (if 2+(e_ es i).v=2+(w:Int) then edgF nd f i 2 else 0)))=0:=by
  unfold loadS
  rw [←sumN_add]
  refine Fx _ λi hi=>?_
  rw [hp i hi,if_neg (show ¬(0:Int)=2+(w:Int) by omega),if_neg (show ¬2+nd+(i:Int)=2+(w:Int) by omega),if_neg (show ¬2+nd+(i:Int)=2+(w:Int) by omega),if_neg (show ¬2+nd+(i:Int)=2+(w:Int) by omega)]
  have:=hcons i hi
  by_cases e1:(e_ es i).u=(w:Int)<;>by_cases e2:(e_ es i).v=(w:Int)
  ·rw [if_pos e1,if_pos e2,if_pos om,if_pos om];omega
  ·rw [if_pos e1,if_neg e2,if_pos om,if_neg om];omega
  ·rw [if_neg e1,if_pos e2,if_neg om,if_pos om];omega
  rw [if_neg e1,if_neg e2,if_neg om,if_neg om];omega
 have:=(cn w om).2
 omega
theorem splitP_nil(M:GrOk nd es)(h:nd=0):SplitP nd 0 1 es []:=by
 have he:es=[]:=by
  cases es with
  |nil=>rfl
  |cons e t=>
   have:=M.edge e List.mem_cons_self
   omega
 subst he
 exact ⟨rfl,λi hi=>absurd hi<|Nat.not_lt_zero i,λv h0 h1=>by omega⟩
end
def SplitB(nd:Int)(es:List Pt)(N D E:Int)(parts:List Int):Prop:=checkG nd es=0->E=D/\SplitP nd N D es parts
end Go.Sl
namespace Go.Sl
open Go.Proofs
set_option maxRecDepth 4000
variable{M es fs:List Pt}{j k k2:Nat}{D N de nd:Int}{f:List Int}{B:BitVec 64}{side:List Bool}
def stepP(q:Int)(j:Nat):Pt:=if j=0 then ⟨-1, -1⟩ else if j=1 then ⟨q, -1⟩ else ⟨q,q+1⟩
theorem step_first{q n:Int}(h:M=fs.set k2 (stepP q j))(hk:k2<fs.length)(hj:j<2)(hn:n=q+(j:Int)):List.set M ((k2:Int)).toNat (setP2 (e_ M k2) (j:Int) n)=fs.set k2 (stepP q (j+1)):=by
 subst h hn
 rw [Int.toNat_natCast,at_setn _ _ _ _ hk,if_pos rfl,List.set_set]
 congr 1
 rcases (show j=0\/j=1 by omega) with rfl|rfl<;>simp [setP2,stepP]
theorem first_next(h:M=fs.set k2 (stepP (2*nd+3*(k2:Int)+1) j))(hj:j=2)(hk:k2<fs.length)(aa:∀i:Nat,i<k2->e_ fs i=stepP (2*nd+3*(i:Int)+1) 2):∀i:Nat,i<k2+1->e_ M i=stepP (2*nd+3*(i:Int)+1) 2:=λi hi=>by
 subst h hj
 rw [at_setn _ _ _ _ hk]
 by_cases e:k2=i
 ·subst e;rw [if_pos rfl]
 rw [if_neg e];exact aa i om
theorem flow_small(hN:0<=N/\N<=4096)(hD:0<=D/\D<=4096)(hf:IsFlow (denseNet nd N D es) f):∀x∈f,0<=x/\x<=4096:=λx hx=>by
 obtain ⟨i,hi,rfl⟩:=List.getElem_of_mem hx
 have M:i<(denseNet nd N D es).arcs.length:=by rw [←hf.len];exact hi
 have h:=hf.cap i M
 rw [Cx f i hi] at h
 have hm:e_ (denseArcs nd N D es) i∈denseArcs nd N D es:=Bx om (by have:i<(denseArcs nd N D es).length:=M;omega)
 have hc:(e_ (denseArcs nd N D es) i).cap<=4096:=by
  rcases mem_denseArcs.1 hm with ⟨v,hv,h⟩|⟨j,hj,h⟩
  ·simp only [nodeArcs,List.mem_cons,List.not_mem_nil,or_false] at h
   rcases h with h|h<;>rw [h]<;>simp only<;>omega
  simp only [edgeArcs,List.mem_cons,List.not_mem_nil,or_false] at h
  rcases h with h|h|h<;>rw [h]<;>simp only<;>omega
 have e:(denseNet nd N D es).arcs=denseArcs nd N D es:=rfl
 rw [e] at h
 omega
theorem or_yes{p:Int->Prop}(hk:k<64)(h:∀v:Int,v∈eo B↔(0<=v/\v<(k:Int))/\p v)(hp:p (k:Int)):∀v:Int,v∈eo (B ||| bitB (k:Int))↔(0<=v/\v<((k+1:Nat):Int))/\p v:=λv=>by
 rw [bit_sh om om]
 rw [mem_orbit om om,h v]
 constructor
 ·rintro (⟨h1,M⟩|h1)
  ·exact ⟨by omega,M⟩
  have:v=(k:Int):=by omega
  subst this;exact ⟨by omega,hp⟩
 rintro ⟨h1,M⟩
 by_cases e:v=(k:Int)
 ·right;omega
 left;exact ⟨by omega,M⟩
theorem or_no{p:Int->Prop}(h:∀v:Int,v∈eo B↔(0<=v/\v<(k:Int))/\p v)(hp:¬p (k:Int)):∀v:Int,v∈eo B↔(0<=v/\v<((k+1:Nat):Int))/\p v:=λv=>by
 rw [h v]
 constructor
 ·rintro ⟨h1,M⟩;exact ⟨by omega,M⟩
 rintro ⟨h1,M⟩
 by_cases e:v=(k:Int)
 ·subst e;exact absurd M hp
 exact ⟨by omega,M⟩
theorem solve_of(hG:GrOk nd es)(hm:es.length<=2016)(hN:0<=N/\N<=4096)(hD:0<=D/\D<=4096)(hB:BothP (denseNet nd N D es) f side)(hk:k=nd.toNat)
  (h:∀v:Int,v∈eo B↔(0<=v/\v<(k:Int))/\e_ side (2+v)=true):SolveP nd N D es B:=by
 obtain ⟨T,aa,M⟩:=hB.great
 have hr:=hG.rng
 refine great_solve hG hm om om hB.flow aa λv=>?_
 rw [h v]
 constructor
 ·rintro ⟨h1,h2⟩
  rw [M (2+v) om (by show 2+v<2+nd+(es.length:Int);omega)] at h2
  exact ⟨by omega,h2⟩
 rintro ⟨h1,h2⟩
 refine ⟨by omega,?_⟩
 rw [M (2+v) om (by show 2+v<2+nd+(es.length:Int);omega)]
 exact h2
theorem parts_of(hG:GrOk nd es)(hm:es.length<=2016)(hN:0<=N/\N<=4096)(hD:0<=D/\D<=4096)(hB:BothP (denseNet nd N D es) f side)(hk:k=nd.toNat)
  (h:∀v:Int,v∈eo B↔(0<=v/\v<(k:Int))/\e_ side (2+v)=true) {parts:List Int} (hl:parts.length=es.length) (hp:∀i:Nat,i<es.length->e_ parts i=D - edgF nd f i 2):PartsP nd N D es B parts:=by
 obtain ⟨T,M,aa⟩:=hB.great
 have hr:=hG.rng
 have hs:subN nd B:=λx hx=>by have:=((h x).1 hx).1;omega
 have hc:costW nd N D es (λv=>T<|2+v)=costW nd N D es (λv=>B.getLsbD v.toNat):=cost_congr hG λv h0 h1=>by
  rw [Bool.eq_iff_iff]
  have a:=h v
  rw [Ed,aa (2+v) om<|by show 2+v<2+nd+(es.length:Int);omega] at a
  constructor
  ·intro hh;exact (a.2 ⟨by omega,hh⟩).2
  intro hh;exact (a.1 ⟨h0,hh⟩).2
 rw [cost_bits hr.1 hr.2 hs] at hc
 have h1:=cost_le_cut (nd:=nd) (N:=N) (D:=D) (es:=es) hD.1 T M.src M.snk
 have h2:netF (denseNet nd N D es) f 0=cutS (denseNet nd N D es) T:=M.value (denseNet_ok hG hm om om) hB.flow
 exact ⟨hl,f,hB.flow,by omega,hp⟩
theorem parts_next{M parts:List Int}{k4:Nat}{px:Int}(h0:0<=nd)(hs:e_ fs k4=stepP (2*nd+3*(k4:Int)+1) 2)(hx:0<=(e_ fs k4).u->0<=(e_ fs k4).v->px=de - e_ M (e_ fs k4).v)
  (hl:parts.length=k4) (aa:∀i:Nat,i<k4->e_ parts i=de - edgF nd M i 2):∀i:Nat,i<k4+1->e_ (parts++[px]) i=de - edgF nd M i 2:=λi hi=>by
 by_cases e:i<k4
 ·rw [En _ _ _ om];exact aa i e
 have e2:i=k4:=by omega
 subst e2
 have h1:=at_last parts px
 rw [hl] at h1
 rw [hs] at hx
 have h2:px=de - e_ M (2*nd+3*(i:Int)+1+1):=hx (show 0<=2*nd+3*(i:Int)+1 by omega) (show 0<=2*nd+3*(i:Int)+1+1 by omega)
 have h3:((nd.toNat*2+(3*i+2):Nat):Int)=2*nd+3*(i:Int)+1+1:=by omega
 unfold edgF
 rw [h1,h2,h3]
theorem Solve_ok{κ:Ctx}{I:List Item}{nd:Int}{ve vw vb vk:Value}{es:List Pt}{ws bs cs:List Int}(hl:Sl κ I ve es)(hw:Sl κ I vw ws)(hb:Sl κ I vb bs)(hkc:Sl κ I vk cs)(hG:GrOk nd es)(hm:es.length<=2016)(hP:PlainP nd es ws bs cs){nu de:Int}(hN:0<=nu/\nu<=4096)(hD:1<=de/\de<=64):eu Tryz.prog κ 214 [.agg #[ve,vw,vb,vk,U64 (allB nd),U64 (0#64)],.agg #[e7 nu,e7 de]] I (λr J=>∃B a c parts,r = .agg #[U64 B,.slice a (parts:List Int).length c]/\SolveP nd nu de es B/\PartsP nd nu de es B parts/\J=vc 3 (.slice a parts.length c) parts::I):=by
 have hrng:=hG.rng
 have hwl:=hP.wl
 have hbl:=hP.bl
 have hcl:=hP.cl
 have hD4:0<=de/\de<=4096:=by omega
 refine Ce2 Tryz.func214 C C ?_
 refine Ar (Ge1 (Al (cs:=[_,_,_,_,_,_]) C C C) λb1=>Ge1 (Al (cs:=[_,_]) C C C) λb2=>Ge1 (Am ty169 C) λb3=>As (Ar (Gf fld172_3 C (Gl ty22 ?_))))
 refine Gr (Da (α:=Int) (xs:=cs) Aa C (Au hkc)) (Gr (Rad C C) (Gf fld172_0 C (Gl ty54 ?_)))
 refine Gr (Da (α:=Pt) (xs:=es) Cp C (Au hl)) (Gr (Rad C C) ?_)
 rw [show (2:Int)+((cs.length:Nat):Int)+((es.length:Nat):Int)=2+nd+((es.length:Nat):Int) by omega]
 refine Gr (Br (cells:=[_,_,_,_]) ty282 Tryz.underlying282 pl282 C C) (Ge1 (Am ty282 C) λb4=>Ge0 (Es4_4 ty282) ?_)
 refine G.fit (J:=vc 284 (.slice none 0 0) (([]:List Arc))::e8 b4 [e7 (2+nd+((es.length:Nat):Int)),e7 0,e7 1,.slice none 0 0] 282::e8 b3 [.int .u64 0,.slice none 0 0] 169::e8 b2 [e7 nu,e7 de] 34::e8 b1 [ve,vw,vb,vk,U64 (allB nd),U64 (0#64)] 172::I) (Bw (α:=Arc) _ _) ?_
 refine As (Bg (S4 5 4 3 2 C C C C) (Ar (Gr (Ec C C) (Ga C (As (A5 (Ar (Gf fld172_3 C (Gl ty22 ?_)))))))))
 refine Gr (Da (α:=Int) (xs:=cs) Aa C (Au hkc)) (Gm C (As (Bk (Cn (σ:=Nat×(Option Addr)×Nat×(List Arc)) (λs=>([(2,.pointer (some ⟨b1,0,none⟩)),(3,.pointer (some ⟨b2,0,none⟩)),(4,.pointer (some ⟨b3,0,none⟩)),(5,.pointer (some ⟨b4,0,none⟩)),(6,.func (.func 248) #[] #[.pointer (some ⟨b4,0,none⟩)]),(33,vk),(34,e7 ((cs.length:Nat):Int)),(35,e7 ((s.1:Nat):Int))]:Env)) (λs=>e8 b4 [e7 (2+nd+((es.length:Nat):Int)),e7 0,e7 1,.slice s.2.1 s.2.2.2.length s.2.2.1] 282::vc 284 (.slice s.2.1 s.2.2.2.length s.2.2.1) (s.2.2.2)::e8 b3 [.int .u64 0,.slice none 0 0] 169::e8 b2 [e7 nu,e7 de] 34::e8 b1 [ve,vw,vb,vk,U64 (allB nd),U64 (0#64)] 172::I) (λs=>(s.1<=cs.length)/\(s.2.2.2=(List.range s.1).flatMap (nodeArcs nu))) (λs=>cs.length - s.1) (0,none,0,[]) ⟨om,rfl⟩ (Ab C (Ab C (Ab C (Ab C (Ab C (Ab C (Ab C (Ab Dg Bs)))))))) Bb ?_))))
 rintro ⟨k,a,c,ar⟩ hp
 dsimp only at hp ⊢
 obtain ⟨hkk,har⟩:=hp
 have harl:ar.length=2*k:=by rw [har,flat_len _ 2 (λ_=>rfl)];omega
 refine Ar (Gr (Ch C C) (As (A5 (Ap C (λc36=>?_) (λc36=>?_)))))
 ·refine Bt (Ay (A5 (Bk (Ar (Gm C (Gr (Az (α:=Int) (xs:=cs) Aa ef C C (Au hkc) om oo) (Gr (Bj (xs:=cs) ef C (Au hkc) om oo) ?_)))))))
  have hkn:k<nd.toNat:=by omega
  rw [hP.c1 (k:Int) om om]
  refine Ga C (Ga C (As (Bg (S10 8 7 2 3 4 5 6 33 34 35 C C C C C C C C C C) (A5 (A4 mixed (Cr 9 (Dr 0 C (Af C) (Dr 2 C (Ad fld172_4 C) (Dr 3 C (Ax ty152) ?_)))))))))
  refine Dr 5 C (Ad fld172_5 C) (Dr 6 C (Ax ty152) ?_)
  refine Ds1 1 (Se C (Ac c_ C C (Bit_ok (k:Int))) ?_)
  rintro _ _ ⟨_,_,⟨rfl,rfl⟩,rfl,rfl⟩
  refine ⟨Ah,?_⟩
  refine Dr 4 C (Cz (a:=bitB (k:Int)) (b:=allB nd) C C) (Dr 7 C (D1 (a:=(bitB (k:Int)) &&& (allB nd)) (b:=0#64) C C) (Dr 8 C (Eo (a:=((bitB (k:Int)) &&& (allB nd)) &&& ~~~(0#64)) (b:=0#64) C C) (Dz (Ay (Bg (S11 48 8 7 2 3 4 5 6 33 34 35 C C C C C C C C C C C) (Ap C (λc48=>?_) (λc48=>?_)))))))
  ·refine A5 (A4 mixed (Cm (e8 b3 [.int .u64 0,.slice none 0 0] 169::e8 b2 [e7 nu,e7 de] 34::e8 b1 [ve,vw,vb,vk,U64 (allB nd),U64 (0#64)] 172::I) 12 (Dr 0 C (Af C) (Dr 1 C (Af C) (Dr 2 C (Rad C C) (Dr 3 C (Ad fld172_2 C) (Dr 4 C (Ax ty22) ?_)))))))
   refine Dr 5 C (Af C) (Dr 6 C (Az (α:=Int) (xs:=bs) Aa ef C C (Au hb) om oo) (Dr 7 C (Bj (xs:=bs) ef C (Au hb) om oo) ?_))
   rw [hP.b0 (k:Int) om om]
   refine Dr 8 C (Ad fld34_1 C) (Dr 9 C (Ax ef) ?_)
   refine Dr 10 C (Ft C C (by unfold InR;omega)) ?_
   rw [Int.zero_mul]
   refine Ds1 11 (Sc2 C (Cu c_ C C C (Cv (J:=e8 b4 [e7 (2+nd+((es.length:Nat):Int)),e7 0,e7 1,.slice a ar.length c] 282::vc 284 (.slice a ar.length c) (ar)::e8 b3 [.int .u64 0,.slice none 0 0] 169::e8 b2 [e7 nu,e7 de] 34::e8 b1 [ve,vw,vb,vk,U64 (allB nd),U64 (0#64)] 172::I) Bb (Arc_ok 0 (2+(k:Int)) 0 olp))) λad5 cp6=>?_)
   refine Dz (Ay (Bg (S10 8 7 2 3 4 5 6 33 34 35 C C C C C C C C C C) (Be (Gm C (Gm C (Gr (Rad C C) (Gm C (Gf fld34_0 C (Gl ef ?_)))))))))
   refine Gr (Ft C C (by unfold InR;omega)) ?_
   rw [Int.one_mul]
   refine Gc2 (Cu c_ C C C (Cv (J:=e8 b4 [e7 (2+nd+((es.length:Nat):Int)),e7 0,e7 1,.slice ad5 (ar++[(⟨0,2+(k:Int),0⟩:Arc)]).length cp6] 282::vc 284 (.slice ad5 (ar++[(⟨0,2+(k:Int),0⟩:Arc)]).length cp6) (ar++[(⟨0,2+(k:Int),0⟩:Arc)])::e8 b3 [.int .u64 0,.slice none 0 0] 169::e8 b2 [e7 nu,e7 de] 34::e8 b1 [ve,vw,vb,vk,U64 (allB nd),U64 (0#64)] 172::I) Bb (Arc_ok (2+(k:Int)) 1 nu olp))) λad7 cp8=>?_
   exact Bi (Av (Ay (Bg (S8 2 3 4 5 6 33 34 35 C C C C C C C C) (Be (Gr (Rad C C) (Gm C (Bi (B5 ((k+1),(ad7),(cp8),((ar++[(⟨0,2+(k:Int),0⟩:Arc)])++[(⟨2+(k:Int),1,nu⟩:Arc)])) (by dsimp only;exact ⟨om,(by rw [flat_succ,←har,List.append_assoc];rfl)⟩)))))))))
  exact absurd (bit_all (u:=(k:Int)) om om om) c48
 refine C7 (A9 (A9 (B3 (Ay (Ar (Gf fld172_0 C (Gl ty54 ?_)))))))
 refine Gr (Da (α:=Pt) (xs:=es) Cp C (Au hl)) (Ge2 (Cj (α:=Pt) (n:=es.length) C6 ty207 C C C om om dc C) λad9 cp10=>?_)
 refine Ga C (As (Bg (S6 9 2 3 4 5 6 C C C C C C) (A5 (Ar (Gf fld172_0 C (Gl ty54 ?_))))))
 refine Gr (Da (α:=Pt) (xs:=es) Cp C (Au hl)) (Gm C (As (Bk (Cn (σ:=Nat×(Option Addr)×Nat×(List Arc)×(List Pt)) (λs=>([(2,.pointer (some ⟨b1,0,none⟩)),(3,.pointer (some ⟨b2,0,none⟩)),(4,.pointer (some ⟨b3,0,none⟩)),(5,.pointer (some ⟨b4,0,none⟩)),(6,.func (.func 248) #[] #[.pointer (some ⟨b4,0,none⟩)]),(9,.slice ad9 (replicate es.length (default:Pt)).length cp10),(75,ve),(76,e7 ((es.length:Nat):Int)),(77,e7 ((s.1:Nat):Int))]:Env)) (λs=>e8 b4 [e7 (2+nd+((es.length:Nat):Int)),e7 0,e7 1,.slice s.2.1 s.2.2.2.1.length s.2.2.1] 282::vc 284 (.slice s.2.1 s.2.2.2.1.length s.2.2.1) (s.2.2.2.1)::vc 207 (.slice ad9 (replicate es.length (default:Pt)).length cp10) (s.2.2.2.2)::e8 b3 [.int .u64 0,.slice none 0 0] 169::e8 b2 [e7 nu,e7 de] 34::e8 b1 [ve,vw,vb,vk,U64 (allB nd),U64 (0#64)] 172::I) (λs=>(s.1<=es.length)/\(s.2.2.2.1=ar++(List.range s.1).flatMap (edgeArcs nd de es))/\(s.2.2.2.2.length=es.length)/\(∀i:Nat,i<s.1->e_ s.2.2.2.2 i=stepP (2*nd+3*(i:Int)+1) 2)) (λs=>es.length - s.1) (0,a,c,ar,replicate es.length (default:Pt)) ⟨om,(by simp),List.length_replicate,(λi h=>by omega)⟩ (Ab C (Ab C (Ab C (Ab C (Ab C (Ab C (Ab C (Ab C (Ab Dg Bs))))))))) Bb ?_))))
 rintro ⟨k2,a2,c2,ar2,fs⟩ hp
 dsimp only at hp ⊢
 obtain ⟨hk2,har2,hfl,hfs⟩:=hp
 have har2l:ar2.length=2*k+3*k2:=by rw [har2,List.length_append,harl,flat_len _ 3 (λ_=>rfl)];omega
 refine Ar (Gr (Ch C C) (As (A5 (Ap C (λc78=>?_) (λc78=>?_)))))
 ·refine Bt (Ay (A5 (Bk (Ar (Gm C (Gr (Az (α:=Pt) (xs:=es) Cp ty95 C C (Au hl) om oo) (Gr (Dt (α:=Pt) (xs:=es) ty95 C (Au hl) om oo) ?_)))))))
  have hed:=hG.edge (e_ es k2) (Bx om om)
  refine Ge1 (Am ty95 C) λb11=>Ga C (Ge0 (Cf ty95) ?_)
  refine As (Bg (S11 10 11 2 3 4 5 6 9 75 76 77 C C C C C C C C C C C) (Ar (Gf fld172_3 C (Gl ty22 ?_))))
  refine Gr (Da (α:=Int) (xs:=cs) Aa C (Au hkc)) (Gr (Rad C C) (Gm C (Gr (Rad C C) ?_)))
  rw [show (2:Int)+((cs.length:Nat):Int)+(k2:Int)=2+nd+(k2:Int) by omega]
  refine Ga C (As (Bg (S12 12 10 11 2 3 4 5 6 9 75 76 77 C C C C C C C C C C C C) (A5 (A4 mixed (Cr 9 (Dr 0 C (Ad fld172_1 C) (Dr 1 C (Ax ty22) ?_)))))))
  refine Dr 2 C (Af C) (Dr 3 C (Az (α:=Int) (xs:=ws) Aa ef C C (Au hw) om oo) (Dr 4 C (Bj (xs:=ws) ef C (Au hw) om oo) ?_))
  rw [hP.w1 k2 om]
  refine Dr 5 C (Ad fld34_1 C) (Dr 6 C (Ax ef) ?_)
  refine Dr 7 C (Ft C C (by unfold InR;omega)) ?_
  rw [Int.one_mul]
  refine Dr 8 C (A0 C) (Dz (Ay (Bg (S13 13 12 10 11 2 3 4 5 6 9 75 76 77 C C C C C C C C C C C C C) (Ar (Gm C (Gm C (Gm C (Gc2 (Cu c_ C C C (Cv (J:=e8 b4 [e7 (2+nd+((es.length:Nat):Int)),e7 0,e7 1,.slice a2 ar2.length c2] 282::vc 284 (.slice a2 ar2.length c2) (ar2)::e8 b11 [e7 ((e_ es k2).u),e7 ((e_ es k2).v)] 95::vc 207 (.slice ad9 (replicate es.length (default:Pt)).length cp10) (fs)::e8 b3 [.int .u64 0,.slice none 0 0] 169::e8 b2 [e7 nu,e7 de] 34::e8 b1 [ve,vw,vb,vk,U64 (allB nd),U64 (0#64)] 172::I) Bb (Arc_ok 0 (2+nd+(k2:Int)) de olp))) λad12 cp13=>?_))))))))
  refine As (Bg (S13 13 12 10 11 2 3 4 5 6 9 75 76 77 C C C C C C C C C C C C C) (Ar (Gm C (Gm C (Gr (Runs.buildArr (cells:=[_,_]) ty207 Bz ef C C) (Gr (Az (α:=Pt) (xs:=fs) C6 ty207 C C A7 om oo) (Ge0 (Ci (α:=Pt) (xs:=fs) (e:=207) (new:=⟨-1, -1⟩) ty207 C C C om oo am) ?_)))))))
  refine As (Bg (S13 13 12 10 11 2 3 4 5 6 9 75 76 77 C C C C C C C C C C C C C) (Ar (Gf fld95_0 C (Gl ef ?_))))
  refine Gf fld95_1 C (Gl ef ?_)
  refine Gr (Runs.buildArr (cells:=[_,_]) ty207 Bz ef C C) (Gm C (As (Bg (S14 109 108 13 12 10 2 3 4 5 6 9 75 76 77 C C C C C C C C C C C C C C) (Bk (Cn (σ:=Nat×(Option Addr)×Nat×(List Arc)×(List Pt)) (λs=>([(2,.pointer (some ⟨b1,0,none⟩)),(3,.pointer (some ⟨b2,0,none⟩)),(4,.pointer (some ⟨b3,0,none⟩)),(5,.pointer (some ⟨b4,0,none⟩)),(6,.func (.func 248) #[] #[.pointer (some ⟨b4,0,none⟩)]),(9,.slice ad9 (replicate es.length (default:Pt)).length cp10),(10,e7 ((k2:Int))),(12,e7 (2+nd+(k2:Int))),(13,e7 de),(75,ve),(76,e7 ((es.length:Nat):Int)),(77,e7 ((k2:Int))),(108,.agg #[e7 ((e_ es k2).u),e7 ((e_ es k2).v)]),(109,e7 ((s.1:Nat):Int))]:Env)) (λs=>e8 b4 [e7 (2+nd+((es.length:Nat):Int)),e7 0,e7 1,.slice s.2.1 s.2.2.2.1.length s.2.2.1] 282::vc 284 (.slice s.2.1 s.2.2.2.1.length s.2.2.1) (s.2.2.2.1)::e8 b11 [e7 ((e_ es k2).u),e7 ((e_ es k2).v)] 95::vc 207 (.slice ad9 (replicate es.length (default:Pt)).length cp10) (s.2.2.2.2)::e8 b3 [.int .u64 0,.slice none 0 0] 169::e8 b2 [e7 nu,e7 de] 34::e8 b1 [ve,vw,vb,vk,U64 (allB nd),U64 (0#64)] 172::I) (λs=>(s.1<=2)/\(s.2.2.2.1=ar2++(edgeArcs nd de es k2).take (1+s.1))/\(s.2.2.2.2=fs.set k2 (stepP (2*nd+3*(k2:Int)+1) s.1))) (λs=>2 - s.1) (0,ad12,cp13,ar2++[(⟨0,2+nd+(k2:Int),de⟩:Arc)],List.set fs ((k2:Int)).toNat (⟨-1, -1⟩)) ⟨om,rfl,(by rw [Int.toNat_natCast];rfl)⟩ (Ab C (Ab C (Ab C (Ab C (Ab C (Ab C (Ab C (Ab C (Ab C (Ab C (Ab C (Ab C (Ab C (Ab Dg Bs)))))))))))))) Bb ?_)))))
  rintro ⟨j,a3,c3,ar3,fs3⟩ hp
  dsimp only at hp ⊢
  obtain ⟨hj,har3,hfs3⟩:=hp
  refine W.pull (p:=0<fs3.length->ad9≠none) (vc.isSome mm) λhsf=>?_
  have har3l:ar3.length=2*k+3*k2+1+j:=by rw [har3,List.length_append,List.length_take,har2l];show 2*k+3*k2+min (1+j) 3=_;omega
  have hf3l:fs3.length=es.length:=by rw [hfs3,List.length_set];exact hfl
  refine Ar (Gr (Ch C C) (As (Bg (S15 110 2 3 4 5 6 9 10 12 13 75 76 77 108 109 C C C C C C C C C C C C C C C) (A5 (Ap C (λc110=>?_) (λc110=>?_))))))
  ·refine Bt (Ay (Bg (S14 2 3 4 5 6 9 10 12 13 75 76 77 108 109 C C C C C C C C C C C C C C) (A5 (Bk (Ar (Gm C (Gr (Runs.index2 (ix2a _ _) (ix2b _ _) C C om) (Ga C (Ga C (As (Bg (S16 15 14 2 3 4 5 6 9 10 12 13 75 76 77 108 109 C C C C C C C C C C C C C C C C) (A5 (A4 mixed (Cr 6 (Dr 0 C (Af C) (Dr 2 C (Ad fld172_5 C) (Dr 3 C (Ax ty152) ?_)))))))))))))))))
   refine Ds1 1 (Se C (Ac c_ C C (Bit_ok (if (j:Int)=0 then (e_ es k2).u else (e_ es k2).v))) ?_)
   rintro _ _ ⟨_,_,⟨rfl,rfl⟩,rfl,rfl⟩
   refine ⟨Ah,?_⟩
   refine Dr 4 C (Cz (a:=bitB (if (j:Int)=0 then (e_ es k2).u else (e_ es k2).v)) (b:=0#64) C C) (Dr 5 C (Runs.eqB (a:=(bitB (if (j:Int)=0 then (e_ es k2).u else (e_ es k2).v)) &&& (0#64)) (b:=0#64) C C) (Dz (Ay (Bg (S17 118 15 14 2 3 4 5 6 9 10 12 13 75 76 77 108 109 C C C C C C C C C C C C C C C C C) (Ap C (λc118=>?_) (λc118=>?_))))))
   ·refine A4 mixed (Cm (e8 b11 [e7 ((e_ es k2).u),e7 ((e_ es k2).v)] 95::e8 b3 [.int .u64 0,.slice none 0 0] 169::e8 b2 [e7 nu,e7 de] 34::e8 b1 [ve,vw,vb,vk,U64 (allB nd),U64 (0#64)] 172::I) 12 (Dr 0 C (Af C) (Dr 1 C (Af C) (Dr 2 C (Af C) (Dr 3 C (Af C) (Dr 4 C (Af C) (Dr 5 C (Af C) (Dr 6 C (Rad C C) (Dr 7 C (Af C) (Dr 9 C (Runs.idxsV Pt C6 ty207 C C (hsf om) om (by simp only [List.length_replicate];omega)) (Ds1 8 (Sc2 C (Cu c_ C C C (Cv (J:=e8 b4 [e7 (2+nd+((es.length:Nat):Int)),e7 0,e7 1,.slice a3 ar3.length c3] 282::vc 284 (.slice a3 ar3.length c3) (ar3)::e8 b11 [e7 ((e_ es k2).u),e7 ((e_ es k2).v)] 95::vc 207 (.slice ad9 (replicate es.length (default:Pt)).length cp10) (fs3)::e8 b3 [.int .u64 0,.slice none 0 0] 169::e8 b2 [e7 nu,e7 de] 34::e8 b1 [ve,vw,vb,vk,U64 (allB nd),U64 (0#64)] 172::I) Bb (Arc_ok (2+nd+(k2:Int)) (2+(if (j:Int)=0 then (e_ es k2).u else (e_ es k2).v)) de olp))) λad14 cp15=>?_))))))))))))
    refine Dr 10 C (Runs.idxElF Bz ef C C (hsf om) om om) (Ds1 11 (Se0 C (Eff.setP2 (xs:=fs3) (i:=(k2:Int)) (j:=(j:Int)) (n:=((ar3.length:Nat):Int)) (e:=207) ef C C om om om am) ?_))
    exact Dz (Av (Ay (Bg (S14 2 3 4 5 6 9 10 12 13 75 76 77 108 109 C C C C C C C C C C C C C C) (Be (Gr (Rad C C) (Gm C (Bi (B5 ((j+1),(ad14),(cp15),(ar3++[(⟨2+nd+(k2:Int),2+(if (j:Int)=0 then (e_ es k2).u else (e_ es k2).v),de⟩:Arc)]),(List.set fs3 ((k2:Int)).toNat (setP2 (e_ fs3 k2) (j:Int) ((ar3.length:Nat):Int)))) (by dsimp only;exact ⟨om,(by rcases (show j=0\/j=1 by omega) with e|e<;>subst e<;>rw [har3,List.append_assoc]<;>simp [edgeArcs]),(step_first hfs3 om om om)⟩)))))))))
   exact absurd BitVec.and_zero c118
  exact C7 (A9 (A9 (B3 (Av (Ay (Bg (S9 2 3 4 5 6 9 75 76 77 C C C C C C C C C) (Be (Gr (Rad C C) (Gm C (Bi (B5 ((k2+1),(a3),(c3),(ar3),(fs3)) (by dsimp only;exact ⟨om,(by rw [har3,har2,flat_succ,List.append_assoc,List.take_of_length_le (show (edgeArcs nd de es k2).length<=1+j by show 3<=1+j;omega)]),hf3l,(first_next hfs3 om om hfs)⟩))))))))))))
 refine C7 (A9 (A9 (B3 (Ay (Ar (Gl4 ty282 ?_))))))
 have hall:ar2=denseArcs nd nu de es:=by rw [har2,har,show k=nd.toNat by omega,show k2=es.length by omega];rfl
 rw [hall]
 have hdl:=denseArcs_len nd nu de es
 refine G.e (Ac c_ C C (Both_ok (n:=denseNet nd nu de es) A7 (denseNet_ok hG hm om om))) ?_
 rintro _ _ ⟨_,_,⟨ad16,cp17,fl,ad18,cp19,side,val,rfl,hB,rfl⟩,rfl,rfl⟩
 have hsl:((side.length:Nat):Int)=2+nd+((es.length:Nat):Int):=hB.len
 have hfl2:fl.length=nd.toNat*2+es.length*3:=hB.flow.len.trans hdl
 refine Gm C (Gr (Bv C C) (Gr (Bv C C) (Gr (Bv C C) (Ga C (Ga C (Ga C (As (Bg (S6 18 16 2 3 4 9 C C C C C C) (Ar (Gf fld172_5 C (Gl ty152 ?_)))))))))))
 refine Gr (Br (cells:=[_,_]) ty169 Tryz.underlying169 pl169 C C) (Ge1 (Am ty169 C) λb20=>Ge0 (Cf ty169) ?_)
 refine As (A5 (Ar (Gf fld172_3 C (Gl ty22 ?_))))
 refine Gr (Da (α:=Int) (xs:=cs) Aa C (Au hkc)) (Gm C (As (Bg (S9 144 143 19 18 16 2 3 4 9 C C C C C C C C C) (Bk (Cn (σ:=Nat×(BitVec 64)) (λs=>([(2,.pointer (some ⟨b1,0,none⟩)),(3,.pointer (some ⟨b2,0,none⟩)),(4,.pointer (some ⟨b3,0,none⟩)),(9,.slice ad9 (replicate es.length (default:Pt)).length cp10),(16,.slice ad16 fl.length cp17),(18,.slice ad18 side.length cp19),(19,.pointer (some ⟨b20,0,none⟩)),(143,e7 ((cs.length:Nat):Int)),(144,e7 ((s.1:Nat):Int))]:Env)) (λs=>e8 b20 [U64 (s.2),.slice none 0 0] 169::vc 4 (.slice ad18 side.length cp19) (side)::vc 3 (.slice ad16 fl.length cp17) (fl)::e8 b4 [e7 (2+nd+((es.length:Nat):Int)),e7 0,e7 1,.slice a2 (denseArcs nd nu de es).length c2] 282::vc 284 (.slice a2 (denseArcs nd nu de es).length c2) ((denseArcs nd nu de es))::vc 207 (.slice ad9 (replicate es.length (default:Pt)).length cp10) (fs)::e8 b3 [.int .u64 0,.slice none 0 0] 169::e8 b2 [e7 nu,e7 de] 34::e8 b1 [ve,vw,vb,vk,U64 (allB nd),U64 (0#64)] 172::I) (λs=>(s.1<=cs.length)/\(∀v:Int,v∈eo s.2↔(0<=v/\v<((s.1:Nat):Int))/\e_ side (2+v)=true)) (λs=>cs.length - s.1) (0,0#64) ⟨om,(λv=>by rw [Dh];constructor;(· intro h;cases h);(· rintro ⟨h,_⟩;omega))⟩ (Ab C (Ab C (Ab C (Ab C (Ab C (Ab C (Ab C (Ab C (Ab Dg Bs))))))))) Aj ?_)))))
 rintro ⟨k3,B⟩ hp
 dsimp only at hp ⊢
 obtain ⟨hk3,hB6⟩:=hp
 refine Ar (Gr (Ch C C) (As (A5 (Ap C (λc145=>?_) (λc145=>?_)))))
 ·refine Bt (Ay (A5 (Bk (Ar (Gm C (Ga C (As (A5 (A4 mixed (Cr 16 (Dr 0 C (Af C) (Dr 2 C (Ad fld172_4 C) (Dr 3 C (Ax ty152) ?_)))))))))))))
  refine Dr 5 C (Ad fld172_5 C) (Dr 6 C (Ax ty152) ?_)
  refine Ds1 1 (Se C (Ac c_ C C (Bit_ok (k3:Int))) ?_)
  rintro _ _ ⟨_,_,⟨rfl,rfl⟩,rfl,rfl⟩
  refine ⟨Ah,?_⟩
  refine Dr 4 C (Cz (a:=bitB (k3:Int)) (b:=allB nd) C C) (Dr 7 C (D1 (a:=(bitB (k3:Int)) &&& (allB nd)) (b:=0#64) C C) (Dr 8 C (Eo (a:=((bitB (k3:Int)) &&& (allB nd)) &&& ~~~(0#64)) (b:=0#64) C C) (Dr 9 C (Af C) (Du (d:=156) C (λg156=>?_) (λg156=>?_)))))
  ·refine Dro 10 C (Af C) (Dro 11 C (Af C) (Dro 12 C (Rad C C) (Dro 13 C (Az (α:=Bool) (xs:=side) Cq ty4 C C A7 om oo) (Dro 14 C (Runs.getB (xs:=side) ty4 C A7 om oo) (Dr 15 C (A2 C C) (Dz (Ay (Bg (S11 162 20 2 3 4 9 16 18 19 143 144 C C C C C C C C C C C) (D8 C (λc162=>?_) (λc162=>?_))))))))))
   ·refine A4 mixed (Cr 6 (Dr 0 C (Ad fld169_0 C) (Dr 1 C (Ax ty152) ?_)))
    refine Dr 2 C (Af C) (Ds1 3 (Se C (Ac c_ C C (Bit_ok (k3:Int))) ?_))
    rintro _ _ ⟨_,_,⟨rfl,rfl⟩,rfl,rfl⟩
    refine ⟨Ah,?_⟩
    refine Dr 4 C (Ey (a:=B) (b:=bitB (k3:Int)) C C) (Dr 5 C (Ad fld169_0 C) (C3 kr ?_))
    refine Ae 6 C (Es2_1 ty152) ?_
    rintro _ _ ⟨rfl,rfl⟩
    refine C4 kr ?_
    exact Av (Ay (Bg (S9 2 3 4 9 16 18 19 143 144 C C C C C C C C C) (Be (Gr (Rad C C) (Gm C (Bi (B5 ((k3+1),(B ||| (bitB (k3:Int)))) (by dsimp only;exact ⟨om,(by first|exact or_yes (p:=λv=>e_ side (2+v)=true) om hB6 c162|exact or_no (p:=λv=>e_ side (2+v)=true) hB6 (by rw [c162];simp))⟩))))))))
   exact Bt (Av (Ay (Be (Gr (Rad C C) (Gm C (Bi (B5 ((k3+1),(B)) (by dsimp only;exact ⟨om,(by first|exact or_yes (p:=λv=>e_ side (2+v)=true) om hB6 c162|exact or_no (p:=λv=>e_ side (2+v)=true) hB6 (by rw [c162];simp))⟩))))))))
  exact absurd (bit_all (u:=(k3:Int)) om om om) g156
 refine C7 (A9 (A9 (B3 (Ay (A5 (Ar (Gf fld172_0 C (Gl ty54 ?_))))))))
 refine Gr (Da (α:=Pt) (xs:=es) Cp C (Au hl)) (Gm C (As (Bg (S8 173 172 2 3 4 9 16 19 C C C C C C C C) (Bk (Cn (σ:=Nat×(Option Addr)×Nat×(List Int)) (λs=>([(2,.pointer (some ⟨b1,0,none⟩)),(3,.pointer (some ⟨b2,0,none⟩)),(4,.pointer (some ⟨b3,0,none⟩)),(9,.slice ad9 (replicate es.length (default:Pt)).length cp10),(16,.slice ad16 fl.length cp17),(19,.pointer (some ⟨b20,0,none⟩)),(172,e7 ((es.length:Nat):Int)),(173,e7 ((s.1:Nat):Int))]:Env)) (λs=>vc 3 (.slice s.2.1 s.2.2.2.length s.2.2.1) (s.2.2.2)::e8 b20 [U64 B,.slice s.2.1 s.2.2.2.length s.2.2.1] 169::vc 4 (.slice ad18 side.length cp19) (side)::vc 3 (.slice ad16 fl.length cp17) (fl)::e8 b4 [e7 (2+nd+((es.length:Nat):Int)),e7 0,e7 1,.slice a2 (denseArcs nd nu de es).length c2] 282::vc 284 (.slice a2 (denseArcs nd nu de es).length c2) ((denseArcs nd nu de es))::vc 207 (.slice ad9 (replicate es.length (default:Pt)).length cp10) (fs)::e8 b3 [.int .u64 0,.slice none 0 0] 169::e8 b2 [e7 nu,e7 de] 34::e8 b1 [ve,vw,vb,vk,U64 (allB nd),U64 (0#64)] 172::I) (λs=>(s.1<=es.length)/\(s.2.2.2.length=s.1)/\(∀i:Nat,i<s.1->e_ s.2.2.2 i=de - edgF nd fl i 2)) (λs=>es.length - s.1) (0,none,0,[]) ⟨om,rfl,(λi h=>by omega)⟩ (Ab C (Ab C (Ab C (Ab C (Ab C (Ab C (Ab C (Ab Dg Bs)))))))) (Bw _ _) ?_)))))
 rintro ⟨k4,pa,pc,parts⟩ hp
 dsimp only at hp ⊢
 obtain ⟨hk4,hpl,hpp⟩:=hp
 have hfu:k4<es.length->(e_ fs k4).u<fl.length/\(e_ fs k4).v<fl.length:=λh=>by rw [hfs k4 om];exact ⟨by show 2*nd+3*(k4:Int)+1<_;omega,by show 2*nd+3*(k4:Int)+1+1<_;omega⟩
 refine Ar (Gr (Ch C C) (As (A5 (Ap C (λc174=>?_) (λc174=>?_)))))
 ·refine Bt (Ay (A5 (Bk (Ar (Gm C (Ga C (As (A4 mixed (Cm (e8 b20 [U64 B,.slice pa parts.length pc] 169::vc 4 (.slice ad18 side.length cp19) (side)::vc 3 (.slice ad16 fl.length cp17) (fl)::e8 b4 [e7 (2+nd+((es.length:Nat):Int)),e7 0,e7 1,.slice a2 (denseArcs nd nu de es).length c2] 282::vc 284 (.slice a2 (denseArcs nd nu de es).length c2) ((denseArcs nd nu de es))::vc 207 (.slice ad9 (replicate es.length (default:Pt)).length cp10) (fs)::e8 b3 [.int .u64 0,.slice none 0 0] 169::e8 b2 [e7 nu,e7 de] 34::e8 b1 [ve,vw,vb,vk,U64 (allB nd),U64 (0#64)] 172::I) 21 (Dr 0 C (Ad fld169_1 C) (Dr 1 C (Ax ty22) ?_)))))))))))
  refine Dr 2 C (Bl (vs:=[_,_,_,_,_,_]) ty172) ?_
  refine Dr 3 C (Af C) (Dr 4 C (Af C) (Dr 5 C (Af C) (Dr 6 C (Az (α:=Pt) (xs:=fs) C6 ty207 C C A7 om oo) (Dr 7 C (Dt (α:=Pt) (xs:=fs) ty207 C A7 om oo) ?_))))
  have hfu2:=hfu om
  refine Dr 8 C (Af C) (Dr 9 C (Ad fld172_1 C) (Dr 10 C (Ax ty22) ?_))
  refine Dr 11 C (Af C) (Dr 12 C (Az (α:=Int) (xs:=ws) Aa ef C C (Au hw) om oo) (Dr 13 C (Bj (xs:=ws) ef C (Au hw) om oo) ?_))
  rw [hP.w1 k4 om]
  refine Dr 14 C (Ad fld34_1 C) (Dr 15 C (Ax ef) ?_)
  refine Dr 16 C (Ft C C (by unfold InR;omega)) ?_
  rw [Int.one_mul]
  refine Ds1 17 (Se C (Ac c_ C C (Part_ok A7 hfu2.1 hfu2.2 (flow_small hN hD4 hB.flow) hD4)) ?_)
  rintro _ _ ⟨_,_,⟨px,rfl,hpx,rfl⟩,rfl,rfl⟩
  refine ⟨Aj,?_⟩
  refine Ds1 18 (Se1 C (B9 (α:=Int) (cs:=[_]) (xs:=[px]) Aa ef C C dc dc C C C C) λad21=>?_)
  refine Ds1 19 (Se2 C (B4 (α:=Int) (e:=3) (xs:=parts) (ys:=([px]:List Int)) Aa ef C C C mm A7 lcn dc C (λ_ _=>am)) λad22 cp23=>?_)
  refine Dr 20 C (Ad fld169_1 C) (C3 kr ?_)
  refine Ae 21 C (Es2_1 ty22) ?_
  rintro _ _ ⟨rfl,rfl⟩
  refine C4 kr ?_
  exact Av (Ay (Bg (S8 2 3 4 9 16 19 172 173 C C C C C C C C) (Be (Gr (Rad C C) (Gm C (Bi (B5 ((k4+1),(ad22),(cp23),(parts++([px]:List Int))) (by dsimp only;exact ⟨om,lap,(parts_next hrng.1 (hfs k4 om) hpx hpl hpp)⟩))))))))
 refine C7 (A9 (A9 (B3 (Ay (Ar (Gl2 ty169 ?_))))))
 refine Ge0 (Cf ty169) ?_
 exact As (Bf (B0 C ty169 C mm C (vc 3 (.slice pa parts.length pc) parts::I) Bb ⟨B,pa,pc,parts,rfl,solve_of hG hm hN hD4 hB om hB6,parts_of hG hm hN hD4 hB om hB6 om (λi hi=>hpp i om),rfl⟩))
end Go.Sl
