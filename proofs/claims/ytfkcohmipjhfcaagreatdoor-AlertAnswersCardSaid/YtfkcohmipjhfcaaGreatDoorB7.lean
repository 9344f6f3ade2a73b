/- A part of the proofs of statements of this seat: contracts of functions, and the plain laws that they lean on. No conditions. -/
import Derived.Test.YtfkcohmipjhfcaaGreatDoorB6
import Derived.MapKept
set_option linter.unusedVariables false
set_option linter.unusedSimpArgs false
set_option linter.unusedSectionVars false
open Go.Proofs.Tryz (prog)
namespace Go.Sl
open Go.Proofs
set_option maxRecDepth 4000
variable{nd:Int}{va:Value}{xs:List Lk}
variable {κ:Ctx}{I:List Item}
attribute [local irreducible] W G V D A j0 Eff
theorem aw8{α:Type}[Inhabited α]{xs ys:List α}(hl:xs.length=ys.length)(h:∀j,j<xs.length->e_ xs j=e_ ys j):xs=ys:=by
 refine Ma hl λj M E=>?_
 have:=h j M
 rwa [Cj xs j M,Cj ys j E] at this
theorem Lk.ac0(a c:Lk):Lk.cmp a c<0↔Lk.lt a c:=Pt.ac0 _ _
def aq8(nd:Int)(xs:List Lk)(kd wd mo nw:Int):Int:=if r7 kd wd mo≠0 then r7 kd wd mo else if j8 nd xs≠0 then j8 nd xs else if nw<0\/1048576<nw\/xs.any (λx=>decide (nw<x.tm))=true then 9 else 0
theorem ck7(hl:Sl κ I va xs):er prog κ 214 [.agg #[e7 nd,va]] I (λr J=>r=e7 (j8 nd xs)/\I=J):=by
 refine Bm hl.le λak=>?_
 refine Ce1 Tryz.func214 C C ?_
 refine Aj<|Ge1 (Ay (cs:=[_,_]) C C C) λb1=>Z ?_
 refine Au (d:=8) C (λg8=>Z ?_)<|λg8=>Z ?_
 ·exact Ak C C I Af ⟨by rw [show j8 nd xs=1 from (by first|(unfold j8;rw [By om];done)|exact hs.trans ((Cy om<|by rw [Q0 om asm];decide).trans (Q0 om asm)))],rfl⟩
 refine Am C (λc12=>Z ?_)<|λc12=>Z ?_
 ·exact Ak C C I Af ⟨by rw [show j8 nd xs=1 from (by first|(unfold j8;rw [By om];done)|exact hs.trans ((Cy om<|by rw [Q0 om asm];decide).trans (Q0 om asm)))],rfl⟩
 refine Dl (σ:=Nat) (λs=>[(16,e7 ((s:Nat):Int))]) (λ_=>[]) (λs=>(s<=xs.length)/\(j8 nd xs=R3 (az9 nd) Lk.lt (Y6 xs s) (xs.drop s))) (λs=>xs.length - s) 0 ⟨om,(by unfold j8;rw [An om];rfl)⟩ ?_
 rintro k hp
 obtain ⟨hk,hs⟩:=hp
 refine Z ?_
 refine Am C (λad=>Z ?_)<|λad=>Z ?_
 ·refine Ge1 (Ah p7 C) λb2=>Ga C (Ge0 (Dp p7)<|Z ?_)
  refine Au (d:=25) C (λM=>Z ?_)<|λM=>Z ?_
  ·exact Ak C C I Af ⟨by rw [show j8 nd xs=6 from (hs.trans<|(Cy om<|by rw [P9 om];decide).trans (P9 om))],rfl⟩
  refine Au (d:=32) C (λai=>Z ?_)<|λai=>Z ?_
  ·exact Ak C C I Af ⟨by rw [show j8 nd xs=6 from (hs.trans<|(Cy om<|by rw [P9 om];decide).trans (P9 om))],rfl⟩
  refine Am C (λae=>Z ?_)<|λae=>Z ?_
  ·exact Ak C C I Af ⟨by rw [show j8 nd xs=6 from (hs.trans<|(Cy om<|by rw [P9 om];decide).trans (P9 om))],rfl⟩
  refine Gc0 (Ac c_ C C<|ch9 ((e_ xs k).w) ((e_ xs k).lb)<|(e_ xs k).sg)<|Z ?_
  refine Am C (λE=>Z ?_)<|λE=>Z ?_
  ·exact Ak C C I Af ⟨by rw [show j8 nd xs=1 from (by first|(unfold j8;rw [By om];done)|exact hs.trans ((Cy om<|by rw [Q0 om asm];decide).trans (Q0 om asm)))],rfl⟩
  refine Au (d:=52) C (λab=>Z ?_)<|λab=>Z ?_
  ·exact Ak C C I Af ⟨by rw [show j8 nd xs=9 from (hs.trans<|(Cy om<|by rw [W4 om (by first|assumption|exact B_.1 asm|exact Gg λh=>c47<|by rw [An h];decide) om];decide).trans (W4 om (by first|assumption|exact B_.1 asm|exact Gg λh=>c47<|by rw [An h];decide) om))],rfl⟩
  refine Am C (λah=>Z ?_)<|λah=>?_
  ·exact Ak C C I Af ⟨by rw [show j8 nd xs=9 from (hs.trans<|(Cy om<|by rw [W4 om (by first|assumption|exact B_.1 asm|exact Gg λh=>c47<|by rw [An h];decide) om];decide).trans (W4 om (by first|assumption|exact B_.1 asm|exact Gg λh=>c47<|by rw [An h];decide) om))],rfl⟩
  refine Ax<|A8 mixed<|C1 14<|Z ?_
  refine Cw (d:=60) C (λaa=>Z ?_)<|λaa=>?_
  ·refine Ds1 10 (Sc0 C (Ac c_ C C<|bj9 (e_ xs<|(k:Int) - 1)<|e_ xs k)<|Z ?_)
   refine Am C (λaj=>Z ?_)<|λaj=>Z ?_
   ·exact Ak C C I Af ⟨by rw [show j8 nd xs=5 from (hs.trans<|ae9 om (Z7 om (by first|assumption|exact B_.1 asm|exact Gg λh=>c47<|by rw [An h];decide) om) om<|by first|assumption|(intro h;have:=(Lk.ac0 _ _).2 h;omega))],rfl⟩
   exact Bh ((k+1)) ⟨om,(hs.trans<|Ep om (Z7 om (by first|assumption|exact B_.1 asm|exact Gg λh=>c47<|by rw [An h];decide) om)<|λh0=>by first|omega|exact (Lk.ac0 _ _).1 om|exact B_.1 asm)⟩
  refine Dpo 3 C<|Z ?_
  exact Bh ((k+1)) ⟨om,(hs.trans<|Ep om (Z7 om (by first|assumption|exact B_.1 asm|exact Gg λh=>c47<|by rw [An h];decide) om)<|λh0=>by first|omega|exact (Lk.ac0 _ _).1 om|exact B_.1 asm)⟩
 exact Ak C C I Af ⟨by rw [show j8 nd xs=0 from (hs.trans<|ar9 om)],rfl⟩
theorem ae3(E:Sl κ I va xs):er prog κ 129 [.agg #[e7 nd,va]] I (λr J=>r=e7 (j8 nd xs)/\I=J):=by
 refine Bm E.le λao=>?_
 refine Ce1 Tryz.func129 C C ?_
 refine Aj<|Ge1 (Ay (cs:=[_,_]) C C C) λb1=>Ga C<|Aq<|Ax<|Aj<|Gf ag2 C<|Gl ef ?_
 refine Gr (Bp C C)<|Gm C<|Au (d:=9) C (λg9=>?_)<|λg9=>?_
 ·exact eb<|eb<|eb<|Gr (Br C C)<|Aq<|W.yes C<|Aj<|Ga C<|Aq<|Bq<|Az<|Ak C C I Af ⟨by rw [show j8 nd xs=1 from (by first|(unfold j8;rw [By om];done)|exact hs.trans ((Cy om<|by rw [Q0 om asm];decide).trans (Q0 om asm)))],rfl⟩
 refine e9 (Ai ag2 C)<|e9 (Bd ef) ?_
 refine e9 (Cl C C)<|Gr (Bg C C)<|Aq<|Am C (λc13=>?_)<|λc13=>?_
 ·exact Aj<|Ga C<|Aq<|Bq<|Az<|Ak C C I Af ⟨by rw [show j8 nd xs=1 from (by first|(unfold j8;rw [By om];done)|exact hs.trans ((Cy om<|by rw [Q0 om asm];decide).trans (Q0 om asm)))],rfl⟩
 refine A4<|Al<|Ax<|Aj<|Gf H0 C<|Gl R7 ?_
 refine Gr (C3 (α:=Lk) (xs:=xs) Aw C<|Bc E)<|Gm C<|Aq<|A0 (S4 17 16 15 1)<|A3<|B4 (σ:=Nat) (λs=>([(1,pt b1),(15,va),(16,e7 ((xs.length:Nat):Int)),(17,e7 ((s:Nat):Int))]:Env)) (λs=>e8 b1 [e7 nd,va] 111::I) (λs=>(s<=xs.length)/\(j8 nd xs=R3 (az9 nd) Lk.lt (Y6 xs s) (xs.drop s))) (λs=>xs.length - s) 0 ⟨om,(by unfold j8;rw [An om];rfl)⟩ (cx2<|Aa C<|Aa Co A9) Ar ?_
 rintro k hp
 obtain ⟨hk,hs⟩:=hp
 refine Aj<|Gr (Bp C C)<|Aq<|Ax<|Am C (λai=>?_)<|λai=>?_
 ·refine A4 (Al<|Ax<|A3<|Aj<|Gm C<|Gr (A2 (α:=Lk) (xs:=xs) Aw p7 C C (Bc E) om om)<|Gr (Cd (α:=Lk) (xs:=xs) p7 C (Bc E) om om)<|Ge1 (Ah p7 C) λb2=>Ga C<|Ge0 (Dp p7) ?_)
  refine Aq<|Ax<|Aj<|Gf at6 C<|Gl ef ?_
  refine Gr (Bp C C)<|Gm C<|Au (d:=25) C (λaa=>?_)<|λaa=>?_
  ·exact eb<|eb<|eb<|eb<|eb<|Gr (Br C C)<|Gm C<|eb<|eb<|eb<|eb<|eb<|Gr (Br C C)<|Aq<|A0 (S7 38 3 4 1 15 16 17)<|W.yes C<|Aj<|Ga C<|Aq<|Bq<|Az<|Bf<|Az<|Az<|Bf<|Az<|Ak C C I Af ⟨by rw [show j8 nd xs=6 from (hs.trans<|(Cy om<|by rw [P9 om];decide).trans (P9 om))],rfl⟩
  refine e9 (Ai at6 C)<|e9 (Bd ef) ?_
  refine e9 (Ai T4 C)<|e9 (Bd ef) ?_
  refine e9 (Eo C C)<|Gr (Bg C C)<|Gm C<|Au (d:=32) C (λak=>?_)<|λak=>?_
  ·exact eb<|eb<|eb<|eb<|eb<|Gr (Br C C)<|Aq<|A0 (S7 38 3 4 1 15 16 17)<|W.yes C<|Aj<|Ga C<|Aq<|Bq<|Az<|Bf<|Az<|Az<|Bf<|Az<|Ak C C I Af ⟨by rw [show j8 nd xs=6 from (hs.trans<|(Cy om<|by rw [P9 om];decide).trans (P9 om))],rfl⟩
  refine e9 (Ai T4 C)<|e9 (Bd ef) ?_
  refine e9 (Ai ag2 C)<|e9 (Bd ef) ?_
  refine e9 (Eo C C)<|Gr (Bg C C)<|Aq<|A0 (S7 38 3 4 1 15 16 17)<|Am C (λad=>?_)<|λad=>?_
  ·exact Aj<|Ga C<|Aq<|Bq<|Az<|Bf<|Az<|Az<|Bf<|Az<|Ak C C I Af ⟨by rw [show j8 nd xs=6 from (hs.trans<|(Cy om<|by rw [P9 om];decide).trans (P9 om))],rfl⟩
  refine A4<|Al<|Ax<|Aj<|Gf cy6 C<|Gl ef ?_
  refine Gf cy5 C<|Gl ef ?_
  refine Gf cy4 C<|Gl ef ?_
  refine Gc0 (Ac c_ C C<|dc1 ((e_ xs k).w) ((e_ xs k).lb)<|(e_ xs k).sg) ?_
  refine Ga C<|Aq<|A0 (S7 5 3 4 1 15 16 17)<|Aj<|Gm C<|Gr (Cu C C)<|Aq<|Am C (λM=>?_)<|λM=>?_
  ·refine Aj (Gm C<|Ga C<|Aq<|Bq<|Az<|Bf<|Az<|Az<|Bf<|Az ?_)
   have ae:¬F0 (e_ xs k).w (e_ xs k).lb (e_ xs k).sg:=λh=>M (By h)
   exact Ak C C I Af ⟨by rw [An ae,show j8 nd xs=1 from (by first|(unfold j8;rw [By om];done)|exact hs.trans ((Cy om<|by rw [Q0 om asm];decide).trans (Q0 om asm)))],rfl⟩
  refine A4<|Al<|Ax<|Aj<|Gf am9 C<|Gl ef ?_
  refine Gr (Bp C C)<|Gm C<|Au (d:=52) C (λab=>?_)<|λab=>?_
  ·exact eb<|eb<|eb<|Gr (Br C C)<|Aq<|A0 (S7 56 3 4 1 15 16 17)<|W.yes C<|Aj<|Ga C<|Aq<|Bq<|Az<|Bf<|Az<|Az<|Bf<|Az<|Ak C C I Af ⟨by rw [show j8 nd xs=9 from (hs.trans<|(Cy om<|by rw [W4 om (by first|assumption|exact B_.1 asm|exact Gg λh=>M<|by rw [An h];decide) om];decide).trans (W4 om (by first|assumption|exact B_.1 asm|exact Gg λh=>M<|by rw [An h];decide) om))],rfl⟩
  refine e9 (Ai am9 C)<|e9 (Bd ef) ?_
  refine e9 (Cl C C)<|Gr (Bg C C)<|Aq<|A0 (S7 56 3 4 1 15 16 17)<|Am C (λan=>?_)<|λan=>?_
  ·exact Aj<|Ga C<|Aq<|Bq<|Az<|Bf<|Az<|Az<|Bf<|Az<|Ak C C I Af ⟨by rw [show j8 nd xs=9 from (hs.trans<|(Cy om<|by rw [W4 om (by first|assumption|exact B_.1 asm|exact Gg λh=>M<|by rw [An h];decide) om];decide).trans (W4 om (by first|assumption|exact B_.1 asm|exact Gg λh=>M<|by rw [An h];decide) om))],rfl⟩
  refine A4<|Al<|Ax<|A8 mixed<|C1 15<|Dr 0 C (Ad C)<|Dr 1 C (Cl C C)<|Dr 2 C (Ad C)<|Cw (d:=59) C (λah=>?_)<|λah=>?_
  ·refine Dro 3 C (Ai H0 C) (Dro 4 C (Bd R7) ?_)
   refine Dro 5 C (Ad C)<|Dro 6 C (Rsu C C)<|Dro 7 C (A2 (α:=Lk) (xs:=xs) Aw p7 C C (Bc E) om om)<|Dro 8 C (Cd (α:=Lk) (xs:=xs) p7 C (Bc E) om om)<|Dro 10 C (Ch (vs:=[_,_,_,_,_,_]) p7) ?_
   refine Ds1 9<|Sc0 C (Ac c_ C C<|ac3<|e_ xs<|(k:Int) - 1) ?_
   refine Ds1 11<|Sc0 C (Ac c_ C C<|ac3<|e_ xs k) ?_
   refine Ds1 12<|Sc0 C (Ac c_ C C<|ar1 (e_ xs<|(k:Int) - 1).p (e_ xs k).p) ?_
   refine Dro 13 C (Fi C)<|Dr 14 C (Br C C)<|Dz<|Al<|A0 (S5 71 1 15 16 17)<|Am C (λaj=>?_)<|λaj=>?_
   ·exact Aj<|Ga C<|Aq<|Bq<|Bf<|Az<|Az<|Bf<|Az<|Ak C C I Af ⟨by rw [show j8 nd xs=5 from (hs.trans<|ae9 om (Z7 om (by first|assumption|exact B_.1 asm|exact Gg λh=>M<|by rw [An h];decide) om) om<|by first|assumption|(intro h;have:=(Lk.ac0 _ _).2 h;omega))],rfl⟩
   exact A4<|Ap<|Al<|A1<|Gr (Rad C C)<|Gm C<|Bl<|Bh ((k+1)) ⟨om,(hs.trans<|Ep om (Z7 om (by first|assumption|exact B_.1 asm|exact Gg λh=>M<|by rw [An h];decide) om)<|λh0=>by first|omega|exact (Lk.ac0 _ _).1 om|exact B_.1 asm)⟩
  exact Dpo 3 C<|Dpo 4 C<|Dpo 5 C<|Dpo 6 C<|Dpo 7 C<|Dpo 8 C<|Dpo 10 C<|Dpo 9 C<|Dpo 11 C<|Dpo 12 C<|Dpo 13 C<|Dr 14 C (Bg C C)<|Dz<|Al<|A0 (S5 71 1 15 16 17)<|W.no C<|A4<|Ap<|Al<|A1<|Gr (Rad C C)<|Gm C<|Bl<|Bh ((k+1)) ⟨om,(hs.trans<|Ep om (Z7 om (by first|assumption|exact B_.1 asm|exact Gg λh=>M<|by rw [An h];decide) om)<|λh0=>by first|omega|exact (Lk.ac0 _ _).1 om|exact B_.1 asm)⟩
 exact B6<|Ao<|Ao<|A5<|Al<|Aj<|Ga C<|Aq<|Bq<|Ak C C I Af ⟨by rw [show j8 nd xs=0 from (hs.trans<|ar9 om)],rfl⟩
end Go.Sl
namespace Go.Sl
open Go.Proofs
set_option maxRecDepth 4000
end Go.Sl
namespace Go.Sl
open Go.RowKit (Below)
variable{T cl et r:Nat}{x y:Operand}{es:List MapEntry}{k v:Value}
def mp(r:Nat)(es:List MapEntry)(cl:Nat):Item where
 fp k:=k=r
 ok w:=w.heap[r]? = some (.map es.toArray cl)
 loc w w' h hw:=(h r rfl).trans hw
section
variable {P:Program}{κ:Ctx}{N:Frm}{Q:Exit->Act->World->Prop}{L:Env}{I J:List Item}{ops:Array Oper}{rest:List Oper}
variable {d:Option Tmp}{ty:TypeId}{ps:String}{af:Array Edge}{gd:Option (Nat×Bool)}
theorem Eff.makeMap{dd:Nat}(M:Nat.blt dd N.n=true) :
  Eff P κ N Q ⟨some dd,.makeMap T none,ty,ps,af,gd⟩ L I λL' I'=>∃r,L'=(dd,.map<|some r)::L/\I'=mp r [] 0::I:=
 Eff.V2 rfl M λa w ha hs=>
  ⟨_,_,_,by simp [execOp,Instr.makeMap,Result.andThen],⟨_,rfl,rfl⟩,hs.new (hs.alloc<|.map #[] 0) (heap_alloc_new w _) λk E=>by obtain rfl:k=_:=E;exact ⟨Gk _,by simp⟩⟩
theorem Eff.co4{z:Operand}{kt:Nat}{kd:IntKind}{I':List Item}(ht:P.underlying T=some (.map kt et))(E:P.underlying kt=some (.int kd))(hx:ep L x=some (.map (some r)))
  (hy:ep L y=some k) (hz:ep L z=some v) (hk:MapKept.IsKey (.int kd) k) (hf:Instr.findNow (.int kd) k es 0=some none) (M:At I (mp r es cl) (mp r (es++[{key:=k,val:=v,born:=cl}])<|cl+1) I') :
  Eff P κ N Q ⟨none,.insert T x y z,ty,ps,af,gd⟩ L I λL' I''=>L'=L/\I''=I':=
 Eff.bv2 rfl λa w ha hs=>by
  have hb:=(hs.ok _ M.mem).1
  refine ⟨{w with heap:=w.heap.setIfInBounds r (.map (es++[({key:=k,val:=v,born:=cl}:MapEntry)]).toArray (cl+1))},I',?_,⟨rfl,rfl⟩,?_⟩
  ·simp [execOp,ha.eval hx,ha.eval hy,ha.eval hz,Instr.mapUpdate,run_underlying ht,MapKept.run_getObj_map hb,MapKept.run_checkKey E hk,MapKept.run_findKey E hf,MapKept.run_setObj_map _ hb,Result.andThen]
  exact hs.upd M rfl ⟨rfl,Gk _⟩ rfl (by simp) (λk _ aa=>(MapKept.heap_set hb).2 k λe=>aa e) (MapKept.heap_set hb).1 λk hk=> .inl hk
theorem j0.co0{E i:Nat}{kd:IntKind}(ht:P.underlying T=some (.map E et))(M:P.underlying E=some (.int kd))(hx:ep L x=some (.map (some r)))
  (hy:ep L y=some k) (hk:MapKept.IsKey (.int kd) k) (hm:mp r es cl∈J) (hf:Instr.findNow (.int kd) k es 0=some (some (i,v))):j0 P κ N ⟨d,.lookup T x y false,ty,ps,af,gd⟩ L J v:=
 λa w ha hs=>by
  have hb:=(hs.ok _ hm).1
  simp [execOp,ha.eval hx,ha.eval hy,Instr.lookup,run_underlying ht,MapKept.run_getObj_map hb,MapKept.run_checkKey M hk,MapKept.run_findKey M hf,Result.andThen]
end
end Go.Sl
namespace Go.Sl
open Go.Proofs
set_option maxRecDepth 4000
variable{kd mo nd nw wd:Int}{v va:Value}{xs:List Lk}{b c c0 k:Nat}{a a0:Option Addr}
attribute [local irreducible] W G V D A j0 Eff
theorem da6{κ:Ctx}{I:List Item}(hl:Sl κ I va xs):er prog κ 131 [.agg #[e7 nd,va],.agg #[e7 kd,e7 wd,e7 mo],e7 nw] I (λr J=>r=e7 (aq8 nd xs kd wd mo nw)/\I=J):=by
 refine Bm hl.le λah=>?_
 refine Ce3 Tryz.func131 C C ?_
 refine Aj<|Ge1 (Ay (cs:=[_,_]) C C C) λb1=>Ge1 (Ay (cs:=[_,_,_]) C C C) λb2=>Z ?_
 refine Gc0 (Ac c_ C C<|ae2 kd wd mo)<|Z ?_
 refine Am C (λM=>Z ?_)<|λM=>Z ?_
 ·exact Ak C C I Af ⟨by rw [show aq8 nd xs kd wd mo nw=r7 kd wd mo from (by unfold aq8;rw [By M])],rfl⟩
 refine Gc0 (Ac c_ C C<|ae3 (nd:=nd)<|Bc hl)<|Z ?_
 refine Am C (λE=>Z ?_)<|λE=>Z ?_
 ·exact Ak C C I Af ⟨by rw [show aq8 nd xs kd wd mo nw=j8 nd xs from (by unfold aq8;rw [An M,By E])],rfl⟩
 refine Au (d:=23) C (λab=>Z ?_)<|λab=>Z ?_
 ·exact Ak C C I Af ⟨by rw [show aq8 nd xs kd wd mo nw=9 from (by unfold aq8;rw [An M,An E,By<|by first|omega|(simp only [*];done)|exact .inr (.inr asm)|exact .inr (.inr<|Lo.2 ⟨_,B3 (i:=(k:Int)) om om,D_ aa⟩)])],rfl⟩
 refine Am C (λad=>Z ?_)<|λad=>Z ?_
 ·exact Ak C C I Af ⟨by rw [show aq8 nd xs kd wd mo nw=9 from (by unfold aq8;rw [An M,An E,By<|by first|omega|(simp only [*];done)|exact .inr (.inr asm)|exact .inr (.inr<|Lo.2 ⟨_,B3 (i:=(k:Int)) om om,D_ aa⟩)])],rfl⟩
 refine Dl (σ:=Nat) (λs=>[(30,e7 ((s:Nat):Int))]) (λ_=>[]) (λs=>(s<=xs.length)/\(∀j,j<s->¬nw<(e_ xs j).tm)) (λs=>xs.length - s) 0 ⟨om,Et⟩ ?_
 rintro k hp
 obtain ⟨hk,hn⟩:=hp
 refine Z ?_
 refine Am C (λae=>Z ?_)<|λae=>Z ?_
 ·refine Ge1 (Ah p7 C) λb3=>Ge0 (Dp p7) (Z ?_)
  refine Am C (λaa=>Z ?_)<|λaa=>Z ?_
  ·exact Ak C C I Af ⟨by rw [show aq8 nd xs kd wd mo nw=9 from (by unfold aq8;rw [An M,An E,By<|by first|omega|(simp only [*];done)|exact .inr (.inr asm)|exact .inr (.inr<|Lo.2 ⟨_,B3 (i:=(k:Int)) om om,D_ aa⟩)])],rfl⟩
  exact Bh ((k+1)) ⟨om,(Dg hn aa)⟩
 exact Ak C C I Af ⟨by rw [show aq8 nd xs kd wd mo nw=0 from (by unfold aq8;rw [An M,An E,An<|by rintro (h|h|h)<;>first|omega|(obtain ⟨x,hx,h2⟩:=Lo.1 h;obtain ⟨j,hj,rfl⟩:=E1 hx;exact hn j om<|Gc h2)])],rfl⟩
variable {κ:Ctx}{I:List Item}
theorem ge0(x:Lk):er prog κ 295 [.agg (kl x).toArray] I (λr J=>r = .bool true/\I=J):=by
 refine Ce1 Tryz.func295 C C ?_
 refine Aj<|Ge1 (Ay (cs:=[_,_,_,_,_,_]) C C C) λb1=>Z ?_
 exact Ak C C I Af ⟨rfl,rfl⟩
theorem ge1(E:X8 κ I b [e7 nw] 3)(M:X8 κ I c [e7 kd,e7 wd,e7 mo] 31)(x:Lk):er prog κ 297 [.agg (kl x).toArray,(pt b),(pt c)] I (λr J=>r = .bool (decide (IntKind.i64.wrap (nw - x.tm)<wd))/\I=J):=by
 refine Ce3 Tryz.func297 C C ?_
 refine Aj<|Ge1 (Ay (cs:=[_,_,_,_,_,_]) C C C) λb1=>Ga C<|Aq<|Aj<|Gr (Dt ef C (Dj E Af) C)<|Z ?_
 refine Gr (j0.gp4 C C)<|Gf bw4 C<|Gr (Dt ef C (Dj M Af) C)<|Z ?_
 exact Ak C C I Af ⟨rfl,rfl⟩
theorem aw6{p:Lk->Bool}(M:k<xs.length)(h:p (e_ xs k)=true):(xs.take (k+1)).filter p=(xs.take k).filter p++[e_ xs k]:=by
 rw [Cn xs k M,Hc];simp [h]
theorem bq2{p:Lk->Bool}(M:k<xs.length)(h:p (e_ xs k)=false):(xs.take (k+1)).filter p=(xs.take k).filter p:=by
 rw [Cn xs k M,Hc];simp [h]
theorem fq4{M:Value} :
    er prog κ 294 [.agg #[e7 nd,M],.agg #[e7 kd,e7 wd,e7 mo],e7 nw] I (λr J=>r = .func (.func 295) #[] #[]/\I=J):=by
 refine Ce3 Tryz.func294 C C ?_
 refine Aj<|Ge1 (Ay (cs:=[_,_]) C C C) λb1=>Ge1 (Ay (cs:=[_,_,_]) C C C) λE=>Z ?_
 exact Ak C C I Af ⟨rfl,rfl⟩
theorem fq3 :
    er prog κ 296 [.agg #[e7 nd,va],.agg #[e7 kd,e7 wd,e7 mo],e7 nw] I (λr J=>∃b c,r = .func (.func 297) #[] #[(pt b),pt c]/\J=e8 b [e7 nw] 3::e8 c [e7 kd,e7 wd,e7 mo] 31::I):=by
 refine Ce3 Tryz.func296 C C ?_
 exact Aj<|Ge1 (Ay (cs:=[_,_]) C C C) λb1=>Ge1 (Ay (cs:=[_,_,_]) C C C) λE=>Ge1 (Ay (cs:=[_]) C C C) λM=>Ga C<|Aq<|Aj<|Gr (Ei C C)<|Ga C<|Aq<|Bq<|Ak C C (e8 M [e7 nw] 3::e8 E [e7 kd,e7 wd,e7 mo] 31::I) Ar ⟨M,E,rfl,rfl⟩
theorem by9  :
    er prog κ 253 [] I (λr J=>∃m,r = .map (some m)/\J=mp m [({key:=e7 1,val:= .func (.func 294) #[] #[],born:=0}:MapEntry),({key:=e7 2,val:= .func (.func 296) #[] #[],born:=1}:MapEntry),({key:=e7 3,val:= .func (.func 298) #[] #[],born:=2}:MapEntry)] 3::I):=by
 refine Ce0 Tryz.func253 C C<|Z ?_
 refine Ge1 (Eff.makeMap C) λM=>?_
 refine Ge0 (Eff.co4 Eb A7 C C C C C am) ?_
 refine Ge0 (Eff.co4 Eb A7 C C C C C am) ?_
 refine Ge0 (Eff.co4 Eb A7 C C C C C am)<|Z ?_
 exact Ak C C (mp M [({key:=e7 1,val:= .func (.func 294) #[] #[],born:=0}:MapEntry),({key:=e7 2,val:= .func (.func 296) #[] #[],born:=1}:MapEntry),({key:=e7 3,val:= .func (.func 298) #[] #[],born:=2}:MapEntry)] 3::I) Ar ⟨M,rfl,rfl⟩
variable {κ:Ctx}{I:List Item}
def Lk.gj3(a c:Lk):Int:=orL [cm2 c.tm a.tm,Lk.cmp c a]
def Lk.late(a c:Lk):Prop:=c.tm<a.tm\/(a.tm=c.tm/\Lk.lt c a)
instance:DecidableRel Lk.late:=λa c=>by unfold Lk.late;infer_instance
theorem Lk.bv9(a c:Lk):Lk.gj3 a c<0↔Lk.late a c:=by
 unfold Lk.gj3 Lk.late
 rw [←Lk.ac0]
 simp only [orL,cm2]
 generalize Lk.cmp c a=z
 (repeat' split)<;>omega
def ak7(xs ys:List Lk):Prop:=ys.Perm xs/\ys.Pairwise λa b=>¬Lk.late b a
open Go.Proofs Go.Shelf Go.Sort in
theorem gf7:SWO (ltOf Lk.gj3) where
 irrefl x:=E_ λh=>by rw [Lk.bv9] at h;unfold Lk.late Lk.lt Pt.lt Lk.p at h;simp only at h;omega
 trans x y z h1 h2:=D_ (by
  have a:=Gc h1
  have b:=Gc h2
  rw [Lk.bv9] at a b ⊢
  unfold Lk.late Lk.lt Pt.lt Lk.p at a b ⊢
  simp only at a b ⊢
  omega)
 ntrans x y z h1 h2:=E_ λh=>by
  have a:=Gt h1
  have b:=Gt h2
  rw [Lk.bv9] at a b h
  unfold Lk.late Lk.lt Pt.lt Lk.p at a b h
  simp only at a b h
  omega
theorem ta8{p:Prop}(h:p:=by simp only [F_];omega):p:=h
theorem bt1(hl:Sl κ I (.slice a xs.length c) xs)(hb:xs.length<=1000000000):er prog κ 216 [.slice a xs.length c] I (λr J=>∃a' c',r = .slice a' xs.length c'/\J=vq 146 a' c' xs::I):=by
 refine Bm (p:=a.isNone=true->xs=[]/\c=0) (λw hs hn=>hl.isNone w hs hn) λM=>?_
 refine Ce1 Tryz.func216 C C<|Z ?_
 refine Gr (j0.gk9 Aw C C)<|Aq<|D8 C (λc4=>Z ?_)<|λc4=>Z ?_
 ·obtain ⟨ab,_⟩:=M c4
  subst ab
  exact Ak C C (vq 146 none 0 ([]:List Lk)::I) (Bb _ _) ⟨none,0,rfl,rfl⟩
 refine Ge1 (Eff.bs0 (α:=Lk) Aw p7 C) λad=>?_
 refine Gm C<|Ge2 (Bv (α:=Lk) (e:=146) (xs:=([]:List Lk)) (ys:=xs) Aw p7 C C C mm (Bc hl) ta8 dc C<|λ_ _=>am) λaa E=>?_
 exact Ga C<|Aq<|Bq<|Ak C C (vq 146 aa E xs::I) Ar ⟨aa,E,rfl,rfl⟩
theorem dk6(a c:Lk):er prog κ 322 [.agg (kl a).toArray,.agg (kl c).toArray] I (λr J=>r=e7 (Lk.gj3 a c)/\I=J):=by
 refine Ce2 Tryz.func322 C C ?_
 refine Aj<|Ge1 (Ay (cs:=[_,_,_,_,_,_]) C C C) λb1=>Ge1 (Ay (cs:=[_,_,_,_,_,_]) C C C) λE=>Ga C<|Aq<|Ax<|A8 mixed<|C1 10<|Z ?_
 refine Ds1 4<|Sc0 C (Ac c_ C C<|V0 c.tm a.tm) ?_
 refine Ds1 7<|Sc0 C (Ac c_ C C<|bj9 c a) ?_
 refine Ds1 8<|Se1 C (Bt (α:=Int) (cs:=[_,_]) (xs:=[cm2 c.tm a.tm,Lk.cmp c a]) Ab ef C C dc dc C C C C) λM=>?_
 refine Ds1 9<|Sc0 C (Ac c_ C C<|gc9 A6) ?_
 refine De kr ?_
 refine Ft (i:=10) kr C (Ci C) C C (Bo C) ?_
 refine Df kr<|Z ?_
 exact Ak C C I Af ⟨rfl,rfl⟩
open Go.Proofs Go.Shelf Go.Sort in
theorem fp5{κ:Ctx}{I:List Item}(aa:xs.length<1000000000):er prog κ 321 [.slice a xs.length c,.func (.func 322) #[] #[]] (vq 146 a c xs::I) λr J=>∃ys:List Lk,(r = .tuple #[]/\ak7 xs ys/\ys.length=xs.length)/\J=[]++vc 146 (.slice a xs.length c) ys::I:=
 (ff4 (α:=Lk) (ρ:=Tryz.be6) Tryz.fx3 Tryz.isAgg146 Tryz.sizeOf146 Lk.gj3 gf7 322 #[] (enters_of Tryz.func322 (by kernel_rfl) rfl) (λx y W=>fy7<|dk6 x y) om).mono λr J ⟨ys,⟨h1,M,h3⟩,E⟩=>
  ⟨ys,⟨h1,⟨M,h3.imp fun {a b} h=>by rw [←Lk.bv9];exact Gt h⟩,M.length_eq⟩,by rw [E,M.length_eq]⟩
theorem fp6{F:Item->List Item}{n:Nat}(E:AtF I (vc 146 (.slice a n c) xs) F)(hn:xs.length=n)(M:xs.length<1000000000):er prog κ 321 [.slice a n c,.func (.func 322) #[] #[]] I λr J=>∃ys:List Lk,(r = .tuple #[]/\ak7 xs ys/\ys.length=n)/\J=[]++F (vc 146 (.slice a n c) ys):=
 Ea (Z:=λ_=>[]) (X:=λys:List Lk=>vc 146 (.slice a n c) ys) (Post:=λr ys=>r = .tuple #[]/\ak7 xs ys/\ys.length=n) E λJ _ _=>by subst hn;exact fp5 M
theorem ta0{p:Prop}(h:p:=by repeat (first|exact AtF.head _ _|apply AtF.tail)):p:=h
theorem gd3(hl:Sl κ I (.slice a0 xs.length c0) xs)(h0:0<=mo)(ah:xs.length<=1000000):er prog κ 299 [.agg #[e7 nd,.slice a0 xs.length c0],e7 mo] I (λr J=>∃(a:Option Addr) (c:Nat) (ys:List Lk) (m:Nat),r = .slice a (List.take m ys).length c/\(ak7 xs ys/\ys.length=xs.length/\(m:Int)<=mo/\m<=xs.length/\((m:Int)=mo\/m=xs.length))/\J=vc 146 (.slice a xs.length c) ys::I):=by
 refine Ce2 Tryz.func299 C C ?_
 refine Aj<|Ge1 (Ay (cs:=[_,_]) C C C) λb1=>Z ?_
 refine G.e (Ac c_ C C<|bt1 (xs:=xs) (Bc hl) om) ?_
 rintro _ _ ⟨_,_,⟨ad,ab,rfl,rfl⟩,rfl,rfl⟩
 refine Z ?_
 refine G.e (Ac c_ C C<|fp6 ta0 C om) ?_
 rintro _ _ ⟨_,_,⟨E,⟨rfl,M,aa⟩,rfl⟩,rfl,rfl⟩
 refine Z ?_
 refine Gr (j0.hi (α:=Lk) (xs:=E) (h:=(if ((xs.length:Nat):Int)<mo then ((xs.length:Nat):Int) else mo).toNat) Aw p7 C C om A6<|by split<;>omega)<|Z ?_
 have ae:(((((if ((xs.length:Nat):Int)<mo then ((xs.length:Nat):Int) else mo).toNat)):Nat):Int)<=mo/\(((if ((xs.length:Nat):Int)<mo then ((xs.length:Nat):Int) else mo).toNat))<=xs.length/\((((((if ((xs.length:Nat):Int)<mo then ((xs.length:Nat):Int) else mo).toNat)):Nat):Int)=mo\/(((if ((xs.length:Nat):Int)<mo then ((xs.length:Nat):Int) else mo).toNat))=xs.length):=by split<;>omega
 exact Ak C C (vc 146 (.slice ad xs.length ab) (E)::I) Ar ⟨ad,ab,E,((if ((xs.length:Nat):Int)<mo then ((xs.length:Nat):Int) else mo).toNat),rfl,⟨M,aa,ae⟩,rfl⟩
theorem fc8(hl:Sl κ I v xs)(x:Lk):er prog κ 323 [v,.agg (kl x).toArray] I (λr J=>∃y:Int,r=e7 y/\(0<=y↔x∈xs)/\I=J):=by
 refine Bm hl.le λaa=>?_
 refine Ce2 Tryz.func323 C C ?_
 refine Aj<|Ge1 (Ay (cs:=[_,_,_,_,_,_]) C C C) λb1=>Z ?_
 refine Dl (σ:=Nat) (λs=>[(8,e7 ((s:Nat):Int))]) (λ_=>[]) (λs=>(s<=xs.length)/\(∀j,j<s->e_ xs j≠x)) (λs=>xs.length - s) 0 ⟨om,Et⟩ ?_
 rintro k hp
 obtain ⟨hk,hn⟩:=hp
 refine Z ?_
 refine Am C (λc9=>Z ?_)<|λc9=>Z ?_
 ·refine A8 mixed (C1 6<|Z ?_)
  refine Dr 5 C (Fm (α:=Lk) (a:=x) (b:=(e_ xs k)) dw4 C C)<|Dz<|Al<|Am C (λM=>Z ?_)<|λM=>Z ?_
  ·have E:x∈xs:=by rw [show x=e_ xs k from M];exact B3 om om
   exact Ak C C I Af ⟨_,rfl,⟨λ_=>E,λ_=>by omega⟩,rfl⟩
  exact Bh ((k+1)) ⟨om,(Dg hn<|λe=>M e.symm)⟩
 have E:x∉xs:=av9 hn om
 exact Ak C C I Af ⟨_,rfl,⟨λh=>absurd h dc,λh=>absurd h E⟩,rfl⟩
theorem ck4(E:Sl κ I v xs)(x:Lk):er prog κ 301 [v,.agg (kl x).toArray] I (λr J=>r = .bool (decide (x∈xs))/\I=J):=by
 refine Ce2 Tryz.func301 C C ?_
 refine Aj<|Ge1 (Ay (cs:=[_,_,_,_,_,_]) C C C) λb1=>Z ?_
 refine G.e (Ac c_ C C<|fc8 (Bc E) x) ?_
 rintro _ _ ⟨_,_,⟨y2,rfl,M,rfl⟩,rfl,rfl⟩
 refine Z ?_
 exact Ak C C I Af ⟨by rw [Fy.2 asm],rfl⟩
theorem fr0{zs:List Lk}(M:X8 κ I b [v] 109)(E:Sl κ I v zs)(x:Lk):er prog κ 300 [.agg (kl x).toArray,(pt b)] I (λr J=>r = .bool (decide (x∈zs))/\I=J):=by
 refine Ce2 Tryz.func300 C C ?_
 refine Aj<|Ge1 (Ay (cs:=[_,_,_,_,_,_]) C C C) λb1=>Ga C<|Aq<|Aj<|Gr (Dt R7 C (Dj M Af) C)<|Z ?_
 refine Gc0 (Ac c_ C C<|ck4 (Bc E) x) ?_
 exact Ga C<|Aq<|Bq<|Ak C C I Af ⟨rfl,rfl⟩
theorem fq2(hl:Sl κ I (.slice a0 xs.length c0) xs)(h0:0<=mo)(ae:xs.length<=1000000):er prog κ 298 [.agg #[e7 nd,.slice a0 xs.length c0],.agg #[e7 kd,e7 wd,e7 mo],e7 nw] I (λr J=>∃(b:Nat) (a:Option Addr) (c:Nat) (ys:List Lk) (m:Nat),r = .func (.func 300) #[] #[(pt b)]/\(ak7 xs ys/\ys.length=xs.length/\(m:Int)<=mo/\m<=xs.length/\((m:Int)=mo\/m=xs.length))/\J=e8 b [.slice a (List.take m ys).length c] 109::vc 146 (.slice a xs.length c) ys::I):=by
 refine Ce3 Tryz.func298 C C ?_
 refine Aj<|Ge1 (Ay (cs:=[_,_]) C C C) λb1=>Ge1 (Ay (cs:=[_,_,_]) C C C) λb2=>Z ?_
 refine G.e (Ac c_ C C<|gd3 (nd:=nd) (Bc hl) h0 om) ?_
 rintro _ _ ⟨_,_,⟨E,M,aa,ad,rfl,ab,rfl⟩,rfl,rfl⟩
 refine Ge1 (Ah R7 C) λb7=>Ge0 (Eff.st (cs:=[_]) (vs:=[_]) (cs':=[_]) R7) ?_
 exact Aq<|Aj<|Gr (Ei C C)<|Ga C<|Aq<|Bq<|Ak C C (e8 b7 [.slice E (List.take ad aa).length M] 109::vc 146 (.slice E xs.length M) (aa)::I) Ar ⟨b7,E,M,aa,ad,rfl,ab,rfl⟩
end Go.Sl
/- Windows: what is present. The plain laws. No Go. No conditions. -/
namespace Go.Sl
variable{kd mo n nd nw wd:Int}{xs ys:List Lk}
theorem gg6:∀(xs:List Lk) (q:Lk),R3 (az9 n) Lk.lt (some q) xs=0->(∀x∈xs,az9 n x=0)/\(q::xs).Pairwise Lk.lt
 |[],q,_=>by simp
 |p::ps,q,h=>by
  simp only [R3] at h
  by_cases hb:az9 n p=0
  ·rw [An (by simp [hb])] at h
   by_cases hl:Lk.lt q p
   ·rw [By hl] at h
    obtain ⟨E,M⟩:=gg6 ps p h
    refine ⟨λx hx=>?_,Gp.2 ⟨λx hx=>?_,M⟩⟩
    ·rcases Gh.1 hx with rfl|hx
     ·exact hb
     exact E x hx
    rcases Gh.1 hx with rfl|hx
    ·exact hl
    exact Pt.lin.tr _ _ _ hl<|(Gp.1 M).1 x hx
   rw [An hl] at h;cases h
  rw [By hb] at h;exact absurd h hb
theorem K9(h:j8 n xs=0):(0<=n/\n<=64)/\(∀x∈xs,az9 n x=0)/\xs.Pairwise Lk.lt:=by
 unfold j8 at h
 by_cases hn:n<0\/64<n
 ·rw [By hn] at h;cases h
 rw [An hn] at h
 refine ⟨by omega,?_⟩
 cases xs with
 |nil=>exact ⟨(λx hx=>by cases hx),List.Pairwise.nil⟩
 |cons p ps=>
  simp only [R3] at h
  by_cases hb:az9 n p=0
  ·rw [An (by simp [hb])] at h
   obtain ⟨E,M⟩:=gg6 ps p h
   exact ⟨λx hx=>by
    rcases Gh.1 hx with rfl|hx
    ·exact hb
    exact E x hx,M⟩
  rw [By hb] at h;exact absurd h hb
theorem cp9{l:Lk}(h:az9 n l=0):0<=l.tm/\l.tm<=1048576:=by
 unfold az9 at h
 split at h
 ·cases h
 split at h
 ·cases h
 split at h
 ·cases h
 omega
structure fs5 (nd:Int) (xs:List Lk) (kd wd mo nw:Int):Prop where
 kind:1<=kd/\kd<=3
 width:kd=2->1<=wd/\wd<=1048576
 most:kd=3->0<=mo/\mo<=2016
 nodes:0<=nd/\nd<=64
 asc:xs.Pairwise Lk.lt
 now:0<=nw/\nw<=1048576
 tm:∀x∈xs,0<=x.tm/\x.tm<=nw
theorem ax4(h:aq8 nd xs kd wd mo nw=0):fs5 nd xs kd wd mo nw:=by
 unfold aq8 at h
 by_cases h1:r7 kd wd mo=0
 ·rw [An (by simp [h1])] at h
  by_cases h2:j8 nd xs=0
  ·rw [An (by simp [h2])] at h
   obtain ⟨h3,h4,h5⟩:=K9 h2
   split at h
   ·cases h
   rename_i h6
   have M:(1<=kd/\kd<=3)/\(kd=2->1<=wd/\wd<=1048576)/\(kd=3->0<=mo/\mo<=2016):=by
    unfold r7 at h1
    split at h1
    ·cases h1
    split at h1
    ·cases h1
    omega
   refine ⟨M.1,M.2.1,M.2.2,h3,h5,by omega,λx E=>?_⟩
   have h7:=cp9 (h4 x E)
   refine ⟨h7.1,?_⟩
   by_cases h8:nw<x.tm
   ·exact absurd (.inr<|.inr<|Lo.2 ⟨x,E,D_ h8⟩) h6
   omega
  rw [By h2] at h;exact absurd h h2
 rw [By h1] at h;exact absurd h h1
def ap4(xs:List Lk)(x:Lk):Nat:=(xs.filter λy=>decide (Lk.late y x)).length
def inW(kd wd mo nw:Int)(xs:List Lk)(x:Lk):Bool:=if kd=2 then decide (nw - x.tm<wd) else if kd=3 then decide ((ap4 xs x:Int)<mo) else true
theorem fj3(x:Lk):¬Lk.late x x:=by unfold Lk.late Lk.lt Pt.lt;omega
theorem df6{x y:Lk}(h:Lk.late x y):¬Lk.late y x:=by unfold Lk.late Lk.lt Pt.lt at *; omega
theorem bu6:∀(ys:List Lk) (i:Nat) (hi:i<ys.length),ys.Pairwise Lk.late->ap4 ys ys[i]=i
 |[],i,hi,_=>absurd hi (by simp)
 |y::ys,0,hi,hp=>by
  obtain ⟨E,h2⟩:=Gp.1 hp
  unfold ap4
  rw [Jc.2 λz hz=>?_]
  ·rfl
  simp only [List.getElem_cons_zero,Gn]
  rcases Gh.1 hz with rfl|hz
  ·exact fj3 _
  exact df6<|E z hz
 |y::ys,i+1,hi,hp=>by
  obtain ⟨E,h2⟩:=Gp.1 hp
  have M:i<ys.length:=by simpa using hi
  have ih:=bu6 ys i M h2
  unfold ap4 at ih ⊢
  rw [List.getElem_cons_succ,Gw,By<|D_<|E _<|Mq M,Fu,ih]
theorem ay2(h:ak7 xs ys)(ha:xs.Pairwise Lk.lt):ys.Pairwise Lk.late:=by
 have h1:xs.Pairwise λa b=>Lk.late a b\/Lk.late b a:=ha.imp fun {a b} M=>by unfold Lk.late Lk.lt Pt.lt at *; omega
 have h2:ys.Pairwise λa b=>Lk.late a b\/Lk.late b a:=(h.1.pairwise_iff fun {x y} E=>E.symm).2 h1
 exact (h2.and h.2).imp fun {a b} M=>M.1.resolve_right M.2
theorem do5(h:ak7 xs ys)(ha:xs.Pairwise Lk.lt){x:Lk}(hx:x∈xs)(m:Nat):x∈ys.take m↔ap4 xs x<m:=by
 have hp:=ay2 h ha
 have hr:∀z,ap4 xs z=ap4 ys z:=λz=>by unfold ap4;exact ((h.1.filter _).length_eq).symm
 constructor
 ·intro E
  obtain ⟨j,hj,M⟩:=Nj.1 E
  rw [hr,←M,bu6 ys j om hp];omega
 intro E
 obtain ⟨j,hj,M⟩:=Ki (h.1.mem_iff.2 hx)
 rw [hr,←M,bu6 ys j hj hp] at E
 exact Nj.2 ⟨j,by omega,M⟩
theorem fz2(E:kd=1):(xs.filter λ_=>true)=xs.filter (inW kd wd mo nw xs):=
 Jd λx M=>by unfold inW;rw [An om,An om]
theorem fz3(h:fs5 nd xs kd wd mo nw)(E:kd=2):(xs.filter λx=>decide (IntKind.i64.wrap (nw - x.tm)<wd))=xs.filter (inW kd wd mo nw xs):=
 Jd λx M=>by
  have h1:=h.tm x M
  have h2:=h.now
  unfold inW;rw [By E,InR.wrap<|by unfold InR;omega]
theorem fk4{m:Nat}(h:fs5 nd xs kd wd mo nw)(E:kd=3)(hs:ak7 xs ys/\ys.length=xs.length/\(m:Int)<=mo/\m<=xs.length/\((m:Int)=mo\/m=xs.length)) :
  (xs.filter λx=>decide<|x∈ys.take m)=xs.filter (inW kd wd mo nw xs):=
 Jd λx M=>by
  unfold inW;rw [An om,By E,Fy,do5 hs.1 h.asc M]
  have hlt:ap4 xs x<xs.length:=by
   have h1:=Gz (λy=>decide<|Lk.late y x) xs
   obtain ⟨j,hj,he⟩:=Ki (hs.1.1.mem_iff.2 M)
   have h2:ap4 xs x=j:=by
    have:ap4 xs x=ap4 ys x:=by unfold ap4;exact ((hs.1.1.filter _).length_eq).symm
    rw [this,←he,bu6 ys j hj<|ay2 hs.1 h.asc]
   omega
  omega
theorem aj2(E:xs.Pairwise Lk.lt){i j:Nat}(hi:i<xs.length)(hj:j<xs.length):Lk.late (e_ xs j) (e_ xs i)↔((e_ xs i).tm<(e_ xs j).tm\/((e_ xs j).tm=(e_ xs i).tm/\i<j)):=by
 unfold Lk.late
 have M:Lk.lt (e_ xs i) (e_ xs j)↔i<j:=by
  constructor
  ·intro h
   rcases Ls i j with h1|h1|h1
   ·exact h1
   ·subst h1;exact absurd h (Pt.lin.irr _)
   exact absurd (Pt.lin.tr _ _ _ h<|(aa8 xs).1 E j i h1 hi)<|Pt.lin.irr _
  intro h;exact (aa8 xs).1 E i j h hj
 rw [M]
end Go.Sl
namespace Go.Sl
open Go.Proofs
set_option maxRecDepth 4000
variable{kd mo nd nw wd:Int}{xs:List Lk}
variable {κ:Ctx}{I:List Item}
attribute [local irreducible] W G V D A j0 Eff
theorem fv3{va:Value}(hl:Sl κ I va xs){i:Nat}(hi:i<xs.length)(M:fs5 nd xs kd wd mo nw):er prog κ 132 [.agg #[e7 nd,va],.agg #[e7 kd,e7 wd,e7 mo],e7 nw,e7 ((i:Int))] I (λr J=>r = .bool (inW kd wd mo nw xs (e_ xs i))/\I=J):=by
 refine Bm hl.le λak=>?_
 have ap:=M.tm _ (B3 (xs:=xs) (i:=(i:Int)) om om)
 have an:=M.now
 refine Ce4 Tryz.func132 C C ?_
 refine Aj<|Ge1 (Ay (cs:=[_,_]) C C C) λb1=>Ge1 (Ay (cs:=[_,_,_]) C C C) λb2=>Z ?_
 refine Am C (λE=>?_)<|λE=>Z ?_
 ·refine Ax (A8 mixed<|C1 12<|Z ?_)
  exact Ak C C I Af ⟨by unfold inW;rw [By E],rfl⟩
 refine Am C (λaa=>Z ?_)<|λaa=>Z ?_
 ·refine Dl (σ:=Nat×Int) (λs=>[(9,e7<|s.2),(32,e7 ((s.1:Nat):Int))]) (λ_=>[]) (λs=>(s.1<=xs.length)/\(s.2=((((xs.take s.1).filter (λy=>decide<|Lk.late y<|e_ xs i)).length:Nat):Int))) (λs=>xs.length - s.1) (0,0) ⟨om,(by simp)⟩ ?_
  rintro ⟨k,cn⟩ hp
  dsimp only at hp ⊢
  obtain ⟨hk,hc⟩:=hp
  have ao:0<=cn/\cn<=k:=by rw [hc];have ad:=Gz (λy=>decide<|Lk.late y<|e_ xs i) (xs.take k);rw [Fx] at ad;omega
  refine Z ?_
  refine Am C (λab=>Z ?_)<|λab=>Z ?_
  ·refine Ge1 (Ah p7 C) λb3=>Ga C (Ge0 (Dp p7) ?_)
   refine Aq<|Ax<|A8 mixed<|C1 25<|Z ?_
   refine Cw (d:=46) C (λai=>Z ?_)<|λai=>?_
   ·exact Bh ((k+1),(cn+1))<|by dsimp only;exact ⟨om,(by first|(rw [aw6 om (D_<|(aj2 M.asc hi om).2 om),A_,La];omega)|(rw [bq2 om (E_ (λh=>by have:=(aj2 M.asc hi om).1 h;omega))];omega))⟩
   refine Dro 10 C (Ai am9 C)<|Z ?_
   refine Cw (d:=56) C (λaj=>Z ?_)<|λaj=>?_
   ·refine Am C (λae=>Z ?_) (λae=>Z ?_)
    ·exact Bh ((k+1),(cn+1))<|by dsimp only;exact ⟨om,(by first|(rw [aw6 om (D_<|(aj2 M.asc hi om).2 om),A_,La];omega)|(rw [bq2 om (E_ (λh=>by have:=(aj2 M.asc hi om).1 h;omega))];omega))⟩
    exact Bh ((k+1),(cn))<|by dsimp only;exact ⟨om,(by first|(rw [aw6 om (D_<|(aj2 M.asc hi om).2 om),A_,La];omega)|(rw [bq2 om (E_ (λh=>by have:=(aj2 M.asc hi om).1 h;omega))];omega))⟩
   refine Dpo 20 C<|Z ?_
   exact Bh ((k+1),(cn))<|by dsimp only;exact ⟨om,(by first|(rw [aw6 om (D_<|(aj2 M.asc hi om).2 om),A_,La];omega)|(rw [bq2 om (E_ (λh=>by have:=(aj2 M.asc hi om).1 h;omega))];omega))⟩
  have ah:cn=((ap4 xs (e_ xs i):Nat):Int):=by rw [hc,Gb om];rfl
  exact Ak C C I Af ⟨by unfold inW;rw [An E,By aa,ah],rfl⟩
 exact Ak C C I Af ⟨by unfold inW;rw [An E,An aa],rfl⟩
theorem cq6{a0:Option Addr}{c0:Nat}(hl:Sl κ I (.slice a0 xs.length c0) xs)(ah:xs.length<=1000000):er prog κ 70 [.agg #[e7 nd,.slice a0 xs.length c0],.agg #[e7 kd,e7 wd,e7 mo],e7 nw] I (λr J=>(aq8 nd xs kd wd mo nw≠0/\r = .tuple #[.agg #[e7 0,.slice none 0 0],e7 (aq8 nd xs kd wd mo nw)]/\I=J)\/(∃a c,aq8 nd xs kd wd mo nw=0/\r = .tuple #[.agg #[e7 nd,.slice a (xs.filter (inW kd wd mo nw xs)).length c],e7 0]/\J=vq 146 a c (xs.filter (inW kd wd mo nw xs))::I)):=by
 refine Ce3 Tryz.func70 C C ?_
 refine Aj<|Ge1 (Ay (cs:=[_,_]) C C C) λb1=>Ge1 (Ay (cs:=[_,_,_]) C C C) λb2=>Ge1 (Ah s5 C) λb3=>Z ?_
 refine Gc0 (Ac c_ C C<|da6 (nd:=nd) (kd:=kd) (wd:=wd) (mo:=mo) (nw:=nw)<|Bc hl)<|Z ?_
 refine Am C (λE=>Z ?_)<|λE=>Z ?_
 ·refine Ge0 (Ba s5) (Z ?_)
  exact C7 C s5 C C mm C I Af<|.inl ⟨E,rfl,rfl⟩
 refine Ge1 (Ah s5 C) λb4=>Ge0 (Ba s5)<|Z ?_
 refine Dl (σ:=Nat×(Option Addr)×Nat×(List Lk)) (λs=>[(26,e7 ((s.1:Nat):Int))]) (λs=>[vq 146 s.2.1 s.2.2.1 s.2.2.2,e8 b4 [e7 nd,.slice s.2.1 s.2.2.2.length s.2.2.1] 111]) (λs=>(s.1<=xs.length)/\(s.2.2.2=(xs.take s.1).filter (inW kd wd mo nw xs))) (λs=>xs.length - s.1) (0,none,0,[]) ⟨om,rfl⟩ (hI:=(Bb _ _)) ?_
 rintro ⟨k,a,c,out⟩ hp
 dsimp only at hp ⊢
 obtain ⟨hk,ho⟩:=hp
 have ae:out.length<=xs.length:=by rw [ho];refine Jt (Gz _ _) ?_;simp only [Fx];omega
 refine Z ?_
 refine Am C (λaa=>Z ?_)<|λaa=>Z ?_
 ·refine Ge1 (Ah p7 C) λb5=>Ga C (Ge0 (Dp p7)<|Z ?_)
  refine Gc0 (Ac c_ C C<|fv3 (nd:=nd) (Bc hl) (i:=k) om<|ax4<|B_.1 E)<|Z ?_
  refine D8 C (λM=>Z ?_)<|λM=>Z ?_
  ·refine Ge1 (Bt (α:=Lk) (cs:=(kl (e_ xs k))) (xs:=[⟨(e_ xs k).u,(e_ xs k).v,(e_ xs k).w,(e_ xs k).lb,(e_ xs k).sg,(e_ xs k).tm⟩]) Aw p7 C C dc dc C kr C C) λai=>?_
   refine Ge2 (Bv (α:=Lk) (e:=146) (xs:=out) (ys:=([⟨(e_ xs k).u,(e_ xs k).v,(e_ xs k).w,(e_ xs k).lb,(e_ xs k).sg,(e_ xs k).tm⟩]:List Lk)) Aw p7 C C C mm A6 lcn dc C<|λ_ _=>am) λab ad=>?_
   refine Gf H0 C<|Ge0 (D5 R7)<|Z ?_
   exact Bh ((k+1),(ab),(ad),(out++([⟨(e_ xs k).u,(e_ xs k).v,(e_ xs k).w,(e_ xs k).lb,(e_ xs k).sg,(e_ xs k).tm⟩]:List Lk)))<|by dsimp only;exact ⟨om,(by first|rw [aw6 om M,←ho]|rw [bq2 om M,←ho])⟩
  exact Bh ((k+1),(a),(c),(out))<|by dsimp only;exact ⟨om,(by first|rw [aw6 om M,←ho]|rw [bq2 om M,←ho])⟩
 refine Ge0 (Ba s5)<|Z ?_
 have hE:out=(xs.filter<|inW kd wd mo nw xs):=by rw [ho,Gb om]
 subst hE
 exact C7 C s5 C C mm C (vq 146 a c (xs.filter<|inW kd wd mo nw xs)::I) Ar<|.inr ⟨a,c,B_.1 E,rfl,rfl⟩
end Go.Sl
namespace Go.Sl
open Go.Proofs
set_option maxRecDepth 4000
end Go.Sl
namespace Go.Sl
open Go.Proofs
set_option maxRecDepth 4000
variable{xs:List Lk}{c0 k:Nat}{kd mo nd nw wd:Int}{a0:Option Addr}
variable {κ:Ctx}{I:List Item}
attribute [local irreducible] W G V D A j0 Eff
def bx7(nw:Int)(l:Lk):Ev:=⟨2,nw,l.u,l.v,0,0,0⟩
theorem N2{P:Lk->Bool}{f:Lk->Ev}(M:k<xs.length)(h:P (e_ xs k)=false):((xs.take (k+1)).filter λx=> !P x).map f=((xs.take k).filter λx=> !P x).map f++[f (e_ xs k)]:=by
 rw [Cn xs k M,Hc,Jb];simp [h]
theorem X0{P:Lk->Bool}{f:Lk->Ev}(M:k<xs.length)(h:P (e_ xs k)=true):((xs.take (k+1)).filter λx=> !P x).map f=((xs.take k).filter λx=> !P x).map f:=by
 rw [Cn xs k M,Hc,Jb];simp [h]
theorem bx4{P R:Lk->Bool}(h:xs.filter P=xs.filter R):(xs.filter λx=> !P x)=xs.filter λx=> !R x:=
 Jd λx E=>by
  have M:x∈xs.filter P↔x∈xs.filter R:=by rw [h]
  rw [G_,G_] at M
  simp only [E,true_and] at M
  cases hp:P x<;>cases hr:R x<;>simp_all
def F6(kd wd mo nw:Int)(xs:List Lk):List Ev:=(xs.filter λx=> !inW kd wd mo nw xs x).map (bx7 nw)
theorem cr6(l:Lk)(nw:Int):er prog κ 254 [.agg (kl l).toArray,e7 nw] I (λr J=>r = .agg #[e7 2,e7 nw,e7 l.u,e7 l.v,e7 0,e7 0,e7 0]/\I=J):=by
 refine Ce2 Tryz.func254 C C ?_
 refine Aj<|Ge1 (Ay (cs:=[_,_,_,_,_,_]) C C C) λb1=>Ge1 (Ah j7 C) λM=>Z ?_
 refine Ge0 (Fa j7) ?_
 exact Aq<|Bq<|Cv C j7 C mm C I Af ⟨rfl,rfl⟩
theorem fd8(l:Lk)(nw:Int):er prog κ 164 [.agg (kl l).toArray,e7 nw] I (λr J=>r = .agg #[e7 2,e7 nw,e7 l.u,e7 l.v,e7 0,e7 0,e7 0]/\I=J):=by
 refine Ce2 Tryz.func164 C C ?_
 refine Aj<|Ge1 (Ay (cs:=[_,_,_,_,_,_]) C C C) λb1=>Ge1 (Ah j7 C) λM=>Z ?_
 refine Ge0 (Fa j7) ?_
 exact Aq<|Bq<|Cv C j7 C mm C I Af ⟨rfl,rfl⟩
theorem fr6{E:Option Addr}(hl:Sl κ I (.slice E xs.length c0) xs)(ab:xs.length<=1000000)(hA:aq8 nd xs 1 wd mo nw=0):er prog κ 213 [.agg #[e7 nd,.slice E xs.length c0],.agg #[e7 1,e7 wd,e7 mo],e7 nw] I (λr J=>∃a c,r = .slice a (F6 1 wd mo nw xs).length c/\J=vq 108 a c (F6 1 wd mo nw xs)::I):=by
 refine Ce3 Tryz.func213 C C ?_
 refine Aj<|Ge1 (Ay (cs:=[_,_]) C C C) λb1=>Ge1 (Ay (cs:=[_,_,_]) C C C) λb2=>Ga C<|Aq<|Ax<|A8 mixed<|C1 9<|Dr 1 C (Ai ac5 C)<|Z ?_
 refine Ds1 0<|Se C (Ac c_ C C by9) ?_
 rintro _ _ ⟨_,_,⟨ad,rfl,rfl⟩,rfl,rfl⟩
 refine ⟨Ar,?_⟩
 refine Ds1 3<|Sr C (j0.co0 (i:=0) Eb A7 C C C mm C) Ar ?_
 refine Ds1 7<|Se C (C0 c_ C C C fq4) ?_
 rintro _ _ ⟨_,_,⟨rfl,rfl⟩,rfl,rfl⟩
 refine ⟨Ar,?_⟩
 refine Z ?_
 refine Dl (σ:=Nat×(Option Addr)×Nat×(List Ev)) (λs=>[(8,.slice s.2.1 s.2.2.2.length s.2.2.1),(22,e7 ((s.1:Nat):Int))]) (λs=>[vq 108 s.2.1 s.2.2.1 s.2.2.2]) (λs=>(s.1<=xs.length)/\(s.2.2.2=((xs.take s.1).filter λx=> !(λ_:Lk=>true) x).map (bx7 nw))) (λs=>xs.length - s.1) (0,none,0,[]) ⟨om,rfl⟩ (hI:=(Bb _ _)) ?_
 rintro ⟨k,a,c,out⟩ hp
 dsimp only at hp ⊢
 obtain ⟨hk,ho⟩:=hp
 have aa:out.length<=xs.length:=by rw [ho,Gi];refine Jt (Gz _ _) ?_;simp only [Fx];omega
 refine Z ?_
 refine Am C (λM=>Z ?_)<|λM=>Z ?_
 ·refine Ge1 (Ah p7 C) λb4=>Ge0 (Dp p7) (Z ?_)
  refine Gc0 (C0 c_ C C C<|ge0<|e_ xs k)<|Z ?_
  exact Bh ((k+1),(a),(c),(out))<|by dsimp only;exact ⟨om,(by first|(rw [N2 (P:=(λ_:Lk=>true)) om (E_ c29),←ho];done)|(rw [N2 (P:=(λ_:Lk=>true)) om (E_ c29),←ho];rfl)|(rw [X0 (P:=(λ_:Lk=>true)) om (D_<|B_.1 c29),←ho])|(rw [X0 (P:=(λ_:Lk=>true)) om rfl,←ho]))⟩
 have hE:out=(F6 1 wd mo nw xs):=by rw [ho,show List.take k xs=xs from Gb om];unfold F6;rw [bx4 (P:=(λ_:Lk=>true)) (fz2 rfl)]
 subst hE
 exact Ak C C (vq 108 a c (F6 1 wd mo nw xs)::I) Ar ⟨a,c,rfl,rfl⟩
theorem fr5(hl:Sl κ I (.slice a0 xs.length c0) xs)(ae:xs.length<=1000000)(hA:aq8 nd xs 2 wd mo nw=0):er prog κ 213 [.agg #[e7 nd,.slice a0 xs.length c0],.agg #[e7 2,e7 wd,e7 mo],e7 nw] I (λr J=>∃a c,r = .slice a (F6 2 wd mo nw xs).length c/\J=vq 108 a c (F6 2 wd mo nw xs)::I):=by
 refine Ce3 Tryz.func213 C C ?_
 refine Aj<|Ge1 (Ay (cs:=[_,_]) C C C) λb1=>Ge1 (Ay (cs:=[_,_,_]) C C C) λb2=>Ga C<|Aq<|Ax<|A8 mixed<|C1 9<|Dr 1 C (Ai ac5 C)<|Z ?_
 refine Ds1 0<|Se C (Ac c_ C C by9) ?_
 rintro _ _ ⟨_,_,⟨ai,rfl,rfl⟩,rfl,rfl⟩
 refine ⟨Ar,?_⟩
 refine Ds1 3<|Sr C (j0.co0 (i:=1) Eb A7 C C C mm C) Ar ?_
 refine Ds1 7<|Sc2 C (C0 c_ C C C fq3) λb4 b5=>Z ?_
 refine Dl (σ:=Nat×(Option Addr)×Nat×(List Ev)) (λs=>[(8,.slice s.2.1 s.2.2.2.length s.2.2.1),(22,e7 ((s.1:Nat):Int))]) (λs=>[vq 108 s.2.1 s.2.2.1 s.2.2.2]) (λs=>(s.1<=xs.length)/\(s.2.2.2=((xs.take s.1).filter λx=> !(λx:Lk=>decide<|IntKind.i64.wrap (nw - x.tm)<wd) x).map (bx7 nw))) (λs=>xs.length - s.1) (0,none,0,[]) ⟨om,rfl⟩ (hI:=(Bb _ _)) ?_
 rintro ⟨k,a,c,out⟩ hp
 dsimp only at hp ⊢
 obtain ⟨hk,ho⟩:=hp
 have ad:out.length<=xs.length:=by rw [ho,Gi];refine Jt (Gz _ _) ?_;simp only [Fx];omega
 refine Z ?_
 refine Am C (λaa=>Z ?_)<|λaa=>Z ?_
 ·refine Ge1 (Ah p7 C) λb6=>Ge0 (Dp p7) (Z ?_)
  refine Gc0 (C0 c_ C C C<|ge1 (D7 mm) (D7 mm)<|e_ xs k)<|Z ?_
  refine Am C (λM=>Z ?_)<|λM=>Z ?_
  ·refine G.e (Ac c_ C C<|cr6 (e_ xs k) nw) ?_
   rintro _ _ ⟨_,_,⟨rfl,rfl⟩,rfl,rfl⟩
   refine Ge1 (Bt (α:=Ev) (cs:=[e7 2,e7 nw,e7<|(e_ xs k).u,e7<|(e_ xs k).v,e7 0,e7 0,e7 0]) (xs:=[⟨2,nw,(e_ xs k).u,(e_ xs k).v,0,0,0⟩]) As j7 C C dc dc C kr C C) λah=>?_
   refine Ge2 (Bv (α:=Ev) (e:=108) (xs:=out) (ys:=([⟨2,nw,(e_ xs k).u,(e_ xs k).v,0,0,0⟩]:List Ev)) As j7 C C C mm A6 lcn dc C<|λ_ _=>am) λE ab=>Z ?_
   exact Bh ((k+1),(E),(ab),(out++([⟨2,nw,(e_ xs k).u,(e_ xs k).v,0,0,0⟩]:List Ev)))<|by dsimp only;exact ⟨om,(by first|(rw [N2 (P:=(λx:Lk=>decide<|IntKind.i64.wrap (nw - x.tm)<wd)) om (E_ M),←ho];done)|(rw [N2 (P:=(λx:Lk=>decide<|IntKind.i64.wrap (nw - x.tm)<wd)) om (E_ M),←ho];rfl)|(rw [X0 (P:=(λx:Lk=>decide<|IntKind.i64.wrap (nw - x.tm)<wd)) om (D_<|B_.1 M),←ho])|(rw [X0 (P:=(λx:Lk=>decide<|IntKind.i64.wrap (nw - x.tm)<wd)) om rfl,←ho]))⟩
  exact Bh ((k+1),(a),(c),(out))<|by dsimp only;exact ⟨om,(by first|(rw [N2 (P:=(λx:Lk=>decide<|IntKind.i64.wrap (nw - x.tm)<wd)) om (E_ M),←ho];done)|(rw [N2 (P:=(λx:Lk=>decide<|IntKind.i64.wrap (nw - x.tm)<wd)) om (E_ M),←ho];rfl)|(rw [X0 (P:=(λx:Lk=>decide<|IntKind.i64.wrap (nw - x.tm)<wd)) om (D_<|B_.1 M),←ho])|(rw [X0 (P:=(λx:Lk=>decide<|IntKind.i64.wrap (nw - x.tm)<wd)) om rfl,←ho]))⟩
 have hE:out=(F6 2 wd mo nw xs):=by rw [ho,show List.take k xs=xs from Gb om];unfold F6;rw [bx4 (P:=(λx:Lk=>decide<|IntKind.i64.wrap (nw - x.tm)<wd)) (fz3 (ax4 hA) rfl)]
 subst hE
 exact Ak C C (vq 108 a c (F6 2 wd mo nw xs)::I) Ar ⟨a,c,rfl,rfl⟩
theorem fr4(hl:Sl κ I (.slice a0 xs.length c0) xs)(an:xs.length<=1000000)(hA:aq8 nd xs 3 wd mo nw=0):er prog κ 213 [.agg #[e7 nd,.slice a0 xs.length c0],.agg #[e7 3,e7 wd,e7 mo],e7 nw] I (λr J=>∃a c,r = .slice a (F6 3 wd mo nw xs).length c/\J=vq 108 a c (F6 3 wd mo nw xs)::I):=by
 refine Ce3 Tryz.func213 C C ?_
 refine Aj<|Ge1 (Ay (cs:=[_,_]) C C C) λb1=>Ge1 (Ay (cs:=[_,_,_]) C C C) λb2=>Ga C<|Aq<|Ax<|A8 mixed<|C1 9<|Dr 1 C (Ai ac5 C)<|Z ?_
 refine Ds1 0<|Se C (Ac c_ C C by9) ?_
 rintro _ _ ⟨_,_,⟨ap,rfl,rfl⟩,rfl,rfl⟩
 refine ⟨Ar,?_⟩
 refine Ds1 3<|Sr C (j0.co0 (i:=2) Eb A7 C C C mm C) Ar ?_
 refine Ds1 7<|Se C (C0 c_ C C C<|fq2 (Bc hl) ((ax4 hA).most C).1 om) ?_
 rintro _ _ ⟨_,_,⟨b4,ak,ao,M,E,rfl,ab,rfl⟩,rfl,rfl⟩
 refine ⟨Ar,?_⟩
 refine Z ?_
 refine Dl (σ:=Nat×(Option Addr)×Nat×(List Ev)) (λs=>[(8,.slice s.2.1 s.2.2.2.length s.2.2.1),(22,e7 ((s.1:Nat):Int))]) (λs=>[vq 108 s.2.1 s.2.2.1 s.2.2.2]) (λs=>(s.1<=xs.length)/\(s.2.2.2=((xs.take s.1).filter λx=> !(λx:Lk=>decide<|x∈List.take E M) x).map (bx7 nw))) (λs=>xs.length - s.1) (0,none,0,[]) ⟨om,rfl⟩ (hI:=(Bb _ _)) ?_
 rintro ⟨k,a,c,out⟩ hp
 dsimp only at hp ⊢
 obtain ⟨hk,ho⟩:=hp
 have aj:out.length<=xs.length:=by rw [ho,Gi];refine Jt (Gz _ _) ?_;simp only [Fx];omega
 refine Z ?_
 refine Am C (λah=>Z ?_)<|λah=>Z ?_
 ·refine Ge1 (Ah p7 C) λb9=>Ge0 (Dp p7) (Z ?_)
  refine Gc0 (C0 c_ C C C<|fr0 (D7 mm) (Sl.take A6 om)<|e_ xs k)<|Z ?_
  refine Am C (λaa=>Z ?_)<|λaa=>Z ?_
  ·refine G.e (Ac c_ C C<|cr6 (e_ xs k) nw) ?_
   rintro _ _ ⟨_,_,⟨rfl,rfl⟩,rfl,rfl⟩
   refine Ge1 (Bt (α:=Ev) (cs:=[e7 2,e7 nw,e7<|(e_ xs k).u,e7<|(e_ xs k).v,e7 0,e7 0,e7 0]) (xs:=[⟨2,nw,(e_ xs k).u,(e_ xs k).v,0,0,0⟩]) As j7 C C dc dc C kr C C) λai=>?_
   refine Ge2 (Bv (α:=Ev) (e:=108) (xs:=out) (ys:=([⟨2,nw,(e_ xs k).u,(e_ xs k).v,0,0,0⟩]:List Ev)) As j7 C C C mm A6 lcn dc C<|λ_ _=>am) λad ae=>Z ?_
   exact Bh ((k+1),(ad),(ae),(out++([⟨2,nw,(e_ xs k).u,(e_ xs k).v,0,0,0⟩]:List Ev)))<|by dsimp only;exact ⟨om,(by first|(rw [N2 (P:=(λx:Lk=>decide<|x∈List.take E M)) om (E_ aa),←ho];done)|(rw [N2 (P:=(λx:Lk=>decide<|x∈List.take E M)) om (E_ aa),←ho];rfl)|(rw [X0 (P:=(λx:Lk=>decide<|x∈List.take E M)) om (D_<|B_.1 aa),←ho])|(rw [X0 (P:=(λx:Lk=>decide<|x∈List.take E M)) om rfl,←ho]))⟩
  exact Bh ((k+1),(a),(c),(out))<|by dsimp only;exact ⟨om,(by first|(rw [N2 (P:=(λx:Lk=>decide<|x∈List.take E M)) om (E_ aa),←ho];done)|(rw [N2 (P:=(λx:Lk=>decide<|x∈List.take E M)) om (E_ aa),←ho];rfl)|(rw [X0 (P:=(λx:Lk=>decide<|x∈List.take E M)) om (D_<|B_.1 aa),←ho])|(rw [X0 (P:=(λx:Lk=>decide<|x∈List.take E M)) om rfl,←ho]))⟩
 have hE:out=(F6 3 wd mo nw xs):=by rw [ho,show List.take k xs=xs from Gb om];unfold F6;rw [bx4 (P:=(λx:Lk=>decide<|x∈List.take E M)) (fk4 (ax4 hA) rfl ab)]
 subst hE
 exact Ak C C (vq 108 a c (F6 3 wd mo nw xs)::I) Ar ⟨a,c,rfl,rfl⟩
theorem db6(hl:Sl κ I (.slice a0 xs.length c0) xs)(M:xs.length<=1000000)(E:aq8 nd xs kd wd mo nw=0):er prog κ 213 [.agg #[e7 nd,.slice a0 xs.length c0],.agg #[e7 kd,e7 wd,e7 mo],e7 nw] I λr J=>∃a c,r = .slice a (F6 kd wd mo nw xs).length c/\J=vq 108 a c (F6 kd wd mo nw xs)::I:=by
 have hk:=(ax4 E).kind
 rcases (by omega:kd=1\/kd=2\/kd=3) with rfl|rfl|rfl
 ·exact fr6 hl M E
 ·exact fr5 hl M E
 exact fr4 hl M E
theorem bk5{κ:Ctx}{I:List Item}(hl:Sl κ I (.slice a0 xs.length c0) xs)(ai:xs.length<=1000000):er prog κ 161 [.agg #[e7 nd,.slice a0 xs.length c0],.agg #[e7 kd,e7 wd,e7 mo],e7 nw] I (λr J=>(aq8 nd xs kd wd mo nw≠0/\r = .tuple #[.slice none 0 0,e7 (aq8 nd xs kd wd mo nw)]/\I=J)\/(∃a c,aq8 nd xs kd wd mo nw=0/\r = .tuple #[.slice a (F6 kd wd mo nw xs).length c,e7 0]/\J=vq 108 a c (F6 kd wd mo nw xs)::I)):=by
 refine Ce3 Tryz.func161 C C ?_
 refine Aj<|Ge1 (Ay (cs:=[_,_]) C C C) λb1=>Ge1 (Ay (cs:=[_,_,_]) C C C) λb2=>Z ?_
 refine Gc0 (Ac c_ C C<|da6 (nd:=nd) (kd:=kd) (wd:=wd) (mo:=mo) (nw:=nw)<|Bc hl)<|Z ?_
 refine Am C (λE=>Z ?_)<|λE=>Z ?_
 ·exact B5 C C C I Af<|.inl ⟨E,rfl,rfl⟩
 refine Dl (σ:=Nat×(Option Addr)×Nat×(List Ev)) (λs=>[(9,.slice s.2.1 s.2.2.2.length s.2.2.1),(22,e7 ((s.1:Nat):Int))]) (λs=>[vq 108 s.2.1 s.2.2.1 s.2.2.2]) (λs=>(s.1<=xs.length)/\(s.2.2.2=((xs.take s.1).filter λx=> !(inW kd wd mo nw xs) x).map (bx7 nw))) (λs=>xs.length - s.1) (0,none,0,[]) ⟨om,rfl⟩ (hI:=(Bb _ _)) ?_
 rintro ⟨k,a,c,out⟩ hp
 dsimp only at hp ⊢
 obtain ⟨hk,ho⟩:=hp
 have ae:out.length<=xs.length:=by rw [ho,Gi];refine Jt (Gz _ _) ?_;simp only [Fx];omega
 refine Z ?_
 refine Am C (λaa=>Z ?_)<|λaa=>Z ?_
 ·refine Ge1 (Ah p7 C) λb3=>Ga C (Ge0 (Dp p7)<|Z ?_)
  refine Gc0 (Ac c_ C C<|fv3 (nd:=nd) (Bc hl) (i:=k) om<|ax4<|B_.1 E)<|Z ?_
  refine D8 C (λM=>Z ?_)<|λM=>Z ?_
  ·refine Gc0 (Ac c_ C C<|fd8 (e_ xs k) nw) ?_
   refine Ge1 (Bt (α:=Ev) (cs:=[e7 2,e7 nw,e7<|(e_ xs k).u,e7<|(e_ xs k).v,e7 0,e7 0,e7 0]) (xs:=[⟨2,nw,(e_ xs k).u,(e_ xs k).v,0,0,0⟩]) As j7 C C dc dc C kr C C) λah=>?_
   refine Ge2 (Bv (α:=Ev) (e:=108) (xs:=out) (ys:=([⟨2,nw,(e_ xs k).u,(e_ xs k).v,0,0,0⟩]:List Ev)) As j7 C C C mm A6 lcn dc C<|λ_ _=>am) λad ab=>Z ?_
   exact Bh ((k+1),(ad),(ab),(out++([⟨2,nw,(e_ xs k).u,(e_ xs k).v,0,0,0⟩]:List Ev)))<|by dsimp only;exact ⟨om,(by first|(rw [N2 (P:=(inW kd wd mo nw xs)) om (by simpa using M),←ho];done)|(rw [N2 (P:=(inW kd wd mo nw xs)) om (by simpa using M),←ho];rfl)|(rw [X0 (P:=(inW kd wd mo nw xs)) om (by simpa using M),←ho]))⟩
  exact Bh ((k+1),(a),(c),(out))<|by dsimp only;exact ⟨om,(by first|(rw [N2 (P:=(inW kd wd mo nw xs)) om (by simpa using M),←ho];done)|(rw [N2 (P:=(inW kd wd mo nw xs)) om (by simpa using M),←ho];rfl)|(rw [X0 (P:=(inW kd wd mo nw xs)) om (by simpa using M),←ho]))⟩
 have hE:out=(F6 kd wd mo nw xs):=by rw [ho,show List.take k xs=xs from Gb om];rfl
 subst hE
 exact B5 C C C (vq 108 a c (F6 kd wd mo nw xs)::I) Ar<|.inr ⟨a,c,B_.1 E,rfl,rfl⟩
variable {κ:Ctx}{I:List Item}
theorem ad9(h:r7 kd wd mo=0):0<=wd/\wd<=1048576:=by
 unfold r7 at h
 split at h
 ·cases h
 split at h
 ·cases h
 omega
theorem au1(h:j8 nd xs=0):∀i:Int,0<=i->i<xs.length->0<=(e_ xs i).tm/\(e_ xs i).tm<=1048576:=λi E M=>cp9 ((K9 h).2.1 _ (B3 E M))
def fe8(nd:Int)(xs:List Lk)(kd wd mo:Int):Int:=if r7 kd wd mo≠0 then r7 kd wd mo else j8 nd xs
def ac6(nd:Int)(xs:List Lk)(kd wd mo:Int):Prop:=fe8 nd xs kd wd mo=0/\kd=2/\xs≠[]
instance (nd:Int) (xs:List Lk) (kd wd mo:Int):Decidable (ac6 nd xs kd wd mo):=by unfold ac6;infer_instance
structure fa7 (nd:Int) (xs:List Lk) (kd wd mo z:Int):Prop where
 yes:ac6 nd xs kd wd mo->(∃x∈xs,z=x.tm+wd)/\∀y∈xs,z<=y.tm+wd
 no:¬ac6 nd xs kd wd mo->z=0
def tmC(a c:Lk):Int:=cm2 a.tm c.tm
theorem ct2(a c:Lk):tmC a c<0↔a.tm<c.tm:=by unfold tmC cm2;split<;>(try split)<;>omega
theorem fd3(a c:Lk):er prog κ 293 [.agg (kl a).toArray,.agg (kl c).toArray] I (λr J=>r=e7 (tmC a c)/\I=J):=by
 refine Ce2 Tryz.func293 C C ?_
 refine Aj<|Ge1 (Ay (cs:=[_,_,_,_,_,_]) C C C) λb1=>Ge1 (Ay (cs:=[_,_,_,_,_,_]) C C C) λM=>Z ?_
 refine Gc0 (Ac c_ C C<|V0 a.tm c.tm) ?_
 exact Ga C<|Aq<|Bq<|Ak C C I Af ⟨rfl,rfl⟩
theorem cr7:gq7 prog κ I 293 [] tmC:=⟨c_,λx y J M=>fd3 x y⟩
theorem gd1{v:Value}(hl:Sl κ I v xs)(ae:0<xs.length){g:FuncId}{E:List Value}(ab:gq7 prog κ I g E tmC):er prog κ 292 [v,.func (.func g) #[] E.toArray] I (λr J=>∃x:Lk,r = .agg (kl x).toArray/\(x∈xs/\∀y∈xs,x.tm<=y.tm)/\I=J):=by
 refine Bm hl.le λai=>?_
 refine Ce2 Tryz.func292 C C ?_
 refine Aj<|Ge1 (Ah p7 C) λb1=>Z ?_
 refine Am C (λc9=>?_)<|λc9=>Z ?_
 ·exact absurd ae om
 refine Ge1 (Ah p7 C) λb2=>Ge0 (Dp p7)<|Z ?_
 refine Dl (σ:=Nat×Lk) (λs=>[(6,e7 ((s.1:Nat):Int))]) (λs=>[e8 b2 (kl s.2) 146]) (λs=>(1<=s.1/\s.1<=xs.length)/\(s.2∈xs)/\(∀j,j<s.1->s.2.tm<=(e_ xs j).tm)) (λs=>xs.length - s.1) (1,e_ xs 0) ⟨om,(B3 om om),(λj hj=>by rw [show j=0 by omega];exact Hn _)⟩ ?_
 rintro ⟨k,m⟩ hp
 dsimp only at hp ⊢
 obtain ⟨hk,hm,hn⟩:=hp
 refine Z ?_
 refine Am C (λad=>Z ?_)<|λad=>Z ?_
 ·refine A8 mixed (C1 8<|Z ?_)
  refine Ds1 6<|Se C (C0 ab.1 (first:=[]) (caps:=E) C C C<|ab.2 (e_ xs k) m _ Af) ?_
  rintro _ _ ⟨_,_,⟨rfl,rfl⟩,rfl,rfl⟩
  refine ⟨Ar,?_⟩
  refine Z ?_
  refine Am C (λM=>Z ?_)<|λM=>Z ?_
  ·refine Ge0 (Dp p7) (Z ?_)
   exact Bh ((k+1),(e_ xs k))<|by dsimp only;exact ⟨om,(by first|exact hm|exact B3 om om),(Dg (λj hj=>by have aa:=hn j hj;first|exact aa|(have hlt:=(ct2 _ _).1 M;omega))<|by first|exact Hn _|(have ah:=mt (ct2 (e_ xs k) m).2 M;omega))⟩
  exact Bh ((k+1),(m))<|by dsimp only;exact ⟨om,(by first|exact hm|exact B3 om om),(Dg (λj hj=>by have aa:=hn j hj;first|exact aa|(have hlt:=(ct2 _ _).1 M;omega))<|by first|exact Hn _|(have ah:=mt (ct2 (e_ xs k) m).2 M;omega))⟩
 refine Ge0 (Dp p7) ?_
 exact Aq<|Bq<|Cv C p7 C mm C I Af ⟨m,rfl,⟨hm,λy hy=>by obtain ⟨j,hj,rfl⟩:=E1 hy;exact hn j om⟩,rfl⟩
end Go.Sl
