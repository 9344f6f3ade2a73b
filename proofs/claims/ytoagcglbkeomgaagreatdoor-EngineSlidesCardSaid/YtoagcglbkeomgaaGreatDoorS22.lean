/- A part of the proofs of statements of this seat: contracts of functions, and the plain laws that they lean on. No conditions. -/
import Derived.Test.YtoagcglbkeomgaaGreatDoorS21
set_option linter.unusedVariables false
set_option linter.unusedSimpArgs false
set_option linter.unusedSectionVars false
open List (replicate take_length append_nil length_replicate mem_append mem_singleton take_zero)
set_option maxHeartbeats 2000000
namespace Go.Sl
open Go.Proofs
set_option maxRecDepth 4000
variable {κ:Ctx}{I:List Item}
theorem prs_nn{n:Int}(h:0<=n/\n<=100000):0<=n*(n - 1)/\n*(n - 1)<=10000000000:=by
 by_cases h0:n=0
 ·subst h0;simp
 refine ⟨Int.mul_nonneg h.1 om,?_⟩
 have Z:=Int.mul_le_mul (a:=n) (b:=n - 1) (c:=100000) (d:=100000) h.2 om om om
 omega
theorem prs_bd{n:Int}(h:0<=n/\n<=64):0<=prs n/\prs n<=2016:=by
 have Z:=prs_nn (n:=n) ⟨h.1,by omega⟩
 unfold prs
 refine ⟨Int.ediv_nonneg Z.1 dc,?_⟩
 by_cases h0:n=0
 ·subst h0;decide
 have Z:=Int.mul_le_mul (a:=n) (b:=n - 1) (c:=64) (d:=63) h.2 om om om
 omega
def wedK(nd:Int)(es:List Pt)(k:Nat):Int:=sumN k λw=>prs ((nbG nd es (w:Int)).length:Int)
theorem wedK_bd(nd:Int)(es:List Pt):∀k:Nat,0<=wedK nd es k/\wedK nd es k<=2016*(k:Int)
 |0=>by simp [wedK,sumN]
 |k+1=>by
  have h1:=wedK_bd nd es k
  have M:=nbG_len nd es (k:Int)
  have Z:=prs_bd (n:=((nbG nd es (k:Int)).length:Int)) ⟨by omega,by omega⟩
  have e:wedK nd es (k+1)=wedK nd es k+prs ((nbG nd es (k:Int)).length:Int):=rfl
  rw [e];omega
theorem Pairs_ok(n:Int)(h:0<=n/\n<=100000):eu Tryz.prog κ 135 [e7 n] I (λr J=>r=e7 (prs n)/\I=J):=by
 have Z:=prs_nn h
 refine Ce1 Tryz.func135 C C ?_
 exact Ad<|Ga C<|Ac<|Ad<|Gm C<|Gm C<|Gr (Rsu C C)<|Gr (E1 C C<|by unfold InR;omega)<|Gr (Runs.quo C C om om<|by unfold InR;omega)<|Ga C<|Ac<|Az<|A1 C C I Ax ⟨rfl,rfl⟩
theorem Wedges_ok{nd:Int}{va:Value}{es:List Pt}(hl:Sl κ I va es)(ab:0<=nd/\nd<=64):eu Tryz.prog κ 90 [.agg #[e7 nd,va]] I (λr J=>r=e7 (wedgeC nd es)/\I=J):=by
 refine Ce1 Tryz.func90 C C ?_
 refine Ad<|Ge1 (Bd (cs:=[_,_]) C C C) λb1=>Ga C<|Ac<|Ad<|Ga C<|Ac<|Ar<|Ad<|Gf fld38_0 C<|Gl ef ?_
 refine Gm C<|Ac<|A5<|B1 (σ:=Nat×Int) (λs=>([(1,pt b1),(3,e7<|s.2),(6,e7 nd),(7,e7 ((s.1:Nat):Int))]:Env)) (λs=>e8 b1 [e7 nd,va] 38::I) (λs=>((s.1:Int)<=nd)/\(s.2=wedK nd es s.1)) (λs=>nd.toNat - s.1) (0,0) ⟨om,rfl⟩ (Aa C<|Aa Cd<|Aa C<|Aa Cd Bp) Bg ?_
 rintro ⟨k,q⟩ hp
 dsimp only at hp ⊢
 obtain ⟨hk,M⟩:=hp
 have aa:=nbG_len nd es (k:Int)
 have ad:=wedK_bd nd es k
 have ae:=prs_bd (n:=((nbG nd es (k:Int)).length:Int)) ⟨by omega,by omega⟩
 refine Ad<|Gr (A9 C C)<|Ac<|Ar<|A7 C (λc8=>?_)<|λc8=>?_
 ·refine Aw (Ah<|Ar<|A5<|Ad<|Gm C<|Ga C<|Ac<|Ay<|Gm C<|Gl2 ty38 ?_)
  refine Gm C<|Gc0 (Aj c_ C C<|DegreeG_ok (nd:=nd) (A8 hl) (k:Int)) ?_
  refine G.e (Aj c_ C C<|Pairs_ok ((((nbG nd es (k:Int)).length:Nat)):Int) om) ?_
  rintro _ _ ⟨_,_,⟨rfl,rfl⟩,rfl,rfl⟩
  exact Gr (Rad C C)<|Ga C<|Bj<|Am<|Ah<|Ap (S4 3 1 6 7)<|Ay<|Gr (Rad C C)<|Gm C<|Bj<|Cb ((k+1),(q+(prs ((((nbG nd es (k:Int)).length:Nat)):Int))))<|by dsimp only;exact ⟨om,(by rw [M];rfl)⟩
 refine Bt<|Aq<|Aq<|Bb<|Ah<|Ad<|Gm C<|Ga C<|Ac<|Az ?_
 have Z:k=nd.toNat:=by omega
 exact A1 C C I Ax ⟨by rw [M,Z];rfl,rfl⟩
end Go.Sl
namespace Go.Sl
open Go.RowKit (Below)
section
variable {P:Program}{κ:Ctx}{N:Frm}{Q:Exit->Act->World->Prop}{L:Env}{I J:List Item}
variable {d:Option Tmp}{ty:TypeId}{ps:String}{af:Array Edge}{gd:Option (Nat×Bool)}
theorem Runs.index4{x y:Operand}{T E by':Nat}{z:List Value}{a b c e i:Int}(ht:P.underlying T=some (.array 4 E))(Z:tyF P E=some (1,false,by',z))(hx:er L x=some (.agg #[e7 a,e7 b,e7 c,e7 e]))(hy:er L y=some (e7 i))(h0:0<=i)(h4:i<4) :
  Runs P κ N ⟨d,.index T x y,ty,ps,af,gd⟩ L J (e7<|e_ [a,b,c,e] i):=by
 intro s w M hs
 obtain ⟨j,rfl⟩:∃j:Nat,i=(j:Int):=⟨i.toNat,by omega⟩
 have hj:j=0\/j=1\/j=2\/j=3:=by omega
 rcases hj with rfl|rfl|rfl|rfl<;>simp [execOp,M.eval hx,M.eval hy,Instr.index,asIntOf,run_underlying ht,run_sizeOf Z,part,run_isAgg Z,e_]
end
end Go.Sl
namespace Go.Sl
open Go.Proofs
set_option maxRecDepth 4000
variable{b' x:Int}{ls num out:List Int}{κ:Ctx}{I:List Item}{va:Value}{w:Nat}{es':List Pt}
theorem inc_next2{Z:List Int}{k:Nat}(M:k<ls.length)(ho:out=(Z++ls.take k).foldl (incL b') num):List.set out (e_ ls k).toNat (e_ out (e_ ls k)+b')=(Z++ls.take (k+1)).foldl (incL b') num:=by
 rw [Cj ls k M,←List.append_assoc,List.foldl_append (l:=Z++ls.take k),←ho];rfl
theorem ind_sum_bd(x:Int):∀l:List Int,0<=(l.map λw=>ind (decide (w=x))).sum/\(l.map λw=>ind (decide (w=x))).sum<=(l.length:Int)
 |[]=>by simp
 |p::l=>by
  have M:=ind_sum_bd x l
  have Z:0<=ind (decide<|p=x)/\ind (decide<|p=x)<=1:=by unfold ind;split<;>omega
  rw [List.map_cons,List.sum_cons,List.length_cons];omega
theorem incs_bd2(M:∀w∈ls,0<=w/\w<(num.length:Int))(hb : -1<=b'/\b'<=1)(hv:∀x∈num,0<=x/\x<=1000000)(Z:0<=x/\x<(num.length:Int)) : -(ls.length:Int)<=e_ (ls.foldl (incL b') num) x/\e_ (ls.foldl (incL b') num) x<=1000000+(ls.length:Int):=by
 have h1:=hv _ (B7 (xs:=num) (i:=x) Z.1 om)
 have h2:=ind_sum_bd x ls
 rw [incs_at _ _ M _ Z.1]
 rcases (by omega:b' = -1\/b'=0\/b'=1) with h|h|h<;>rw [h]<;>omega
theorem fm_len{α β:Type}{f:α->List β}{m:Nat}(h:∀a,(f a).length<=m):∀l:List α,(l.flatMap f).length<=m*l.length
 |[]=>by simp
 |a::l=>by
  have Z:=fm_len h l
  have M:=h a
  rw [List.flatMap_cons,List.length_append,List.length_cons,Nat.mul_succ];omega
section
variable {nd u v:Int}{es:List Pt}
theorem overL_len(nd:Int)(es:List Pt)(u v:Int):(overL nd es u v).length<=4096:=by
 have h1:=nbG_len nd es u
 have Z:=nbG_len nd es v
 have M:=fm_len (f:=overR nd es u v) (m:=64) (λa=>by
  unfold overR
  split
  ·simp
  rw [List.length_map];exact Nat.le_trans (List.length_filter_le _ _) Z) (nbG nd es u)
 unfold overL;omega
theorem four_in(hG:GrOk nd es)(hu:NodeR nd u)(hv:NodeR nd v){p:Pt}(hp:p∈overL nd es u v):∀w∈fourL u v p,0<=w/\w<nd:=λw Z=>by
 have M:=mem_over hG hp
 unfold NodeR at hu hv M
 unfold fourL at Z
 simp only [List.mem_cons,List.not_mem_nil,or_false] at Z
 rcases Z with rfl|rfl|rfl|rfl<;>omega
def preQ(nd:Int)(es:List Pt)(u v:Int)(k j:Nat):List Int:=((overL nd es u v).take k).flatMap (fourL u v)++(fourL u v (e_ (overL nd es u v) k)).take j
theorem preQ_in(M:GrOk nd es)(hu:NodeR nd u)(hv:NodeR nd v){k j:Nat}(Z:k<(overL nd es u v).length\/j=0):∀w∈preQ nd es u v k j,0<=w/\w<nd:=λw hw=>by
 unfold preQ at hw
 rcases mem_append.1 hw with hw|hw
 ·obtain ⟨p,hp,hw⟩:=List.mem_flatMap.1 hw
  exact four_in M hu hv (List.mem_of_mem_take hp) w hw
 rcases Z with Z|rfl
 ·exact four_in M hu hv (B7 om om) w<|List.mem_of_mem_take hw
 cases hw
theorem preQ_len(k j:Nat)(M:k<=(overL nd es u v).length):(preQ nd es u v k j).length<=20000:=by
 have h1:=overL_len nd es u v
 have Z:=fm_len (f:=fourL u v) (m:=4) (λa=>by unfold fourL;simp) ((overL nd es u v).take k)
 have h4:(fourL u v<|e_ (overL nd es u v) k).length=4:=rfl
 rw [List.length_take] at Z
 unfold preQ
 rw [List.length_append,List.length_take];omega
theorem preQ_next{k:Nat}(Z:k<(overL nd es u v).length):preQ nd es u v k 4=preQ nd es u v (k+1) 0:=by
 unfold preQ
 rw [fm_take _ _ Z,take_zero,append_nil];rfl
end
theorem QChg_ok{nd nd' nd0 u v w0 n0:Int}{ea na ga:Option Addr}{ec nc gn gc:Nat}{es:List Pt}(hl:Sl κ I (.slice ea es.length ec) es)(hm:Sl κ I (.slice na num.length nc) num)(hG:GrOk nd es)(hu:NodeR nd u)(hv:NodeR nd v)(au:(num.length:Int)=nd)(a1:∀x∈num,0<=x/\x<=1000000)(bc:0<=w0/\w0<=1000000)(bh:0<=n0/\n0<=1000000000)(hb : -1<=b'/\b'<=1)(hT:TabRd κ I 0 tzCells):eu Tryz.prog κ 307 [.agg #[e7 nd0,va,e7 w0,e7 n0,.slice na num.length nc],.agg #[e7 (nd'),.slice ga gn gc],.agg #[e7 nd,.slice ea es.length ec],e7 u,e7 v,e7 (b')] I (λr J=>∃(a:Option Addr) (c:Nat),r = .tuple #[.agg #[e7 nd',.slice ga gn gc,e7 (w0+b'*(((nbG nd es u).length:Int)+((nbG nd es v).length:Int))),e7 (n0+b'*((overL nd es u v).length:Int)),.slice a num.length c],e7 ((overL nd es u v).length:Int),e7 0]/\J=vc 3 (.slice a num.length c) (quadU b' (overL nd es u v) u v num)::I):=by
 have ba:=hG.rng
 have bf:0<=u/\u<nd:=hu
 have bi:0<=v/\v<nd:=hv
 have bg:=nbG_len nd es u
 have be:=nbG_len nd es v
 have bb:=overL_len nd es u v
 have bk : -128<=b'*(((nbG nd es u).length:Int)+((nbG nd es v).length:Int))/\b'*(((nbG nd es u).length:Int)+((nbG nd es v).length:Int))<=128:=by rcases (by omega:b' = -1\/b'=0\/b'=1) with h|h|h<;>rw [h]<;>omega
 have bj : -4096<=b'*((overL nd es u v).length:Int)/\b'*((overL nd es u v).length:Int)<=4096:=by rcases (by omega:b' = -1\/b'=0\/b'=1) with h|h|h<;>rw [h]<;>omega
 refine Ce6 Tryz.func307 C C ?_
 refine Ad<|Ge1 (Bd (cs:=[_,_,_,_,_]) C C C) λb1=>Ge1 (Bd (cs:=[_,_]) C C C) λb2=>Ge1 (Bd (cs:=[_,_]) C C C) λb3=>Ge1 (A4 ty45 C) λb4=>Ga C<|Ga C<|Ac<|Ad<|Gl2 ty38 ?_
 refine Gm C<|Gm C<|G.e (Aj c_ C C<|Over_ok (nd:=nd) (u:=u) (v:=v) (A8 hl) hG<|Bn hT Ax) ?_
 rintro _ _ ⟨_,_,⟨ab,ad,rfl,rfl⟩,rfl,rfl⟩
 refine Ga C<|Ac<|Ap (S8 15 12 8 7 6 3 4 5)<|Ar<|Bs mixed<|El 25<|Dr 0 C (Bc (vs:=[_,_]) ty38) ?_
 refine Dr 1 C (Ab fld45_1 C)<|Dr 2 C (A0 ef) ?_
 refine Dr 3 C (Ai C)<|Dr 4 C (Bc (vs:=[_,_]) ty38) ?_
 refine Dr 5 C (Ai C)<|Dr 7 C (Bc (vs:=[_,_]) ty38) ?_
 refine Dr 8 C (Ai C)<|Dr 13 C (Ab fld45_2 C)<|Dr 14 C (A0 ef) ?_
 refine Dr 15 C (Ai C)<|Dr 16 C (Ai C)<|Dr 17 C (Bk B4 C)<|Dr 18 C (E1 C C<|by first|(unfold InR;omega)|(have h7:=aa om;unfold InR;omega))<|Dr 19 C (Cw C C<|by first|(unfold InR;omega)|(have h7:=aa om;unfold InR;omega))<|Dr 20 C (Ab fld45_3 C)<|Dr 21 C (A0 ty22) ?_
 refine Do (rs:=[6,24]) kr C C<|Eu ?_<|D6 ?_
 ·refine Sc0 C (Aj c_ C C<|DegreeG_ok (nd:=nd) (A8 hl) u) ?_
  refine Do (rs:=[9,24]) kr C C<|Eu ?_<|D6 ?_
  ·refine Sc0 C (Aj c_ C C<|DegreeG_ok (nd:=nd) (A8 hl) v) ?_
   refine Dr 10 C (Cw C C<|by first|(unfold InR;omega)|(have h7:=aa om;unfold InR;omega))<|Dr 11 C (E1 C C<|by first|(unfold InR;omega)|(have h7:=aa om;unfold InR;omega))<|Dr 12 C (Cw C C<|by first|(unfold InR;omega)|(have h7:=aa om;unfold InR;omega))<|Do (rs:=[22,24]) kr C C<|Eu ?_<|D6 ?_
   ·refine Sc2 C (Aj c_ C C<|CloneI (xs:=num) (A8 hm) om) λaw av=>?_
    refine Dr 23 C (Bq (cells:=[_,_,_,_,_]) ty45 Du pl45 C C)<|Ds1 24<|Se1 C (A4 ty45 C) λb9=>?_
    refine Cs kr ?_
    refine Ae 25 C (Fb ty45) ?_
    rintro _ _ ⟨rfl,rfl⟩
    refine Ct kr ?_
    refine Ah<|Ap (S6 16 15 12 3 4 5)<|Ar<|Ad<|Gm C<|Gr (Bk B4 C)<|Gm C<|Ac<|A5<|B1 (σ:=Nat×(List Int)) (λs=>([(3,e7 u),(4,e7 v),(5,e7<|b'),(12,pt b4),(15,.slice ab (overL nd es u v).length ad),(16,pt b9),(49,.slice ab (overL nd es u v).length ad),(50,e7<|(((overL nd es u v).length:Nat):Int)),(51,e7 ((s.1:Nat):Int))]:Env)) (λs=>e8 b9 [e7 (nd'),.slice ga gn gc,e7<|w0+(b'*(((((nbG nd es u).length:Nat)):Int)+((((nbG nd es v).length:Nat)):Int))),e7<|n0+(b'*(((overL nd es u v).length:Nat):Int)),.slice aw num.length av] 45::vc 3 (.slice aw num.length av) (s.2)::vk 200 ab ad (overL nd es u v)::e8 b4 [e7 0,.slice none 0 0,e7 0,e7 0,.slice none 0 0] 45::e8 b3 [e7 nd,.slice ea es.length ec] 38::e8 b2 [e7 (nd'),.slice ga gn gc] 38::e8 b1 [e7 nd0,va,e7 w0,e7 n0,.slice na num.length nc] 45::I) (λs=>(s.1<=(overL nd es u v).length)/\(s.2=(preQ nd es u v s.1 0).foldl (incL b') num)) (λs=>(overL nd es u v).length - s.1) (0,num) ⟨om,rfl⟩ (cx4<|cx4<|Aa Cd Bp) Bg ?_
    rintro ⟨k,out⟩ hp
    dsimp only at hp ⊢
    obtain ⟨hk,ho⟩:=hp
    have a3:out.length=num.length:=by rw [ho];exact incs_len _ _
    refine Ad<|Gr (A9 C C)<|Ac<|Ar<|A7 C (λar=>?_)<|λar=>?_
    ·refine Aw (Ah<|Ar<|A5<|Ad<|Gr (A3 (α:=Pt) (xs:=overL nd es u v) B4 ty200 C C Bi (by first|omega|(have h8:=M om;omega))<|by first|omega|(have h8:=M om;omega))<|Gr (Bv (α:=Pt) (xs:=overL nd es u v) ty200 C Bi (by first|omega|(have h8:=M om;omega))<|by first|omega|(have h8:=M om;omega))<|Ge1 (A4 ty200 C) λa6=>Ge0 (Cz ty200) ?_)
     refine Ac<|Ad<|Gm C<|Gm C<|Gr (Cg Ch ty2 C C om om)<|Gl ef ?_
     refine Gr (Cg Ch ty2 C C om om)<|Gl ef ?_
     refine Gr (E5 (cells:=[_,_,_,_]) ty155 Dq ef C C)<|Gm C<|Ac<|Ap (S11 62 61 3 4 5 12 15 16 49 50 51)<|A5<|B1 (σ:=Nat×(List Int)) (λs=>([(3,e7 u),(4,e7 v),(5,e7<|b'),(12,pt b4),(15,.slice ab (overL nd es u v).length ad),(16,pt b9),(49,.slice ab (overL nd es u v).length ad),(50,e7<|(((overL nd es u v).length:Nat):Int)),(51,e7<|(k:Int)),(61,.agg #[e7 u,e7 v,e7<|(e_ (overL nd es u v) k).u,e7<|(e_ (overL nd es u v) k).v]),(62,e7 ((s.1:Nat):Int))]:Env)) (λs=>e8 a6 [e7 ((e_ (overL nd es u v) k).u),e7<|(e_ (overL nd es u v) k).v] 200::e8 b9 [e7 (nd'),.slice ga gn gc,e7<|w0+(b'*(((((nbG nd es u).length:Nat)):Int)+((((nbG nd es v).length:Nat)):Int))),e7<|n0+(b'*(((overL nd es u v).length:Nat):Int)),.slice aw num.length av] 45::vc 3 (.slice aw num.length av) (s.2)::vk 200 ab ad (overL nd es u v)::e8 b4 [e7 0,.slice none 0 0,e7 0,e7 0,.slice none 0 0] 45::e8 b3 [e7 nd,.slice ea es.length ec] 38::e8 b2 [e7 (nd'),.slice ga gn gc] 38::e8 b1 [e7 nd0,va,e7 w0,e7 n0,.slice na num.length nc] 45::I) (λs=>(s.1<=4)/\(s.2=(preQ nd es u v k s.1).foldl (incL b') num)) (λs=>4 - s.1) (0,out) ⟨om,ho⟩ (cx4<|cx4<|cx2<|Aa Cd Bp) Bg ?_
     rintro ⟨k2,Z⟩ hp
     dsimp only at hp ⊢
     obtain ⟨a4,ae⟩:=hp
     have ax:Z.length=num.length:=by rw [ae];exact incs_len _ _
     have M:=λh:k2<4=>four_in hG hu hv (B7 (xs:=overL nd es u v) (i:=(k:Int)) om om) _ (B7 (xs:=(fourL u v<|e_ (overL nd es u v) k)) (i:=(k2:Int)) om<|by show (k2:Int)<4;omega)
     have aa:=λh:k2<4=>incs_bd2 (b':=b') (num:=num) (λw hw=>by rw [au];exact preQ_in hG hu hv (k:=k) (j:=k2) (.inl om) w hw) hb a1 (x:=e_ (fourL u v<|e_ (overL nd es u v) k) (k2:Int)) (by have:=M h;omega)
     rw [←ae] at aa
     have a5:=preQ_len (nd:=nd) (es:=es) (u:=u) (v:=v) k k2 om
     refine Ad<|Gr (A9 C C)<|Ac<|Ar<|A7 C (λap=>?_)<|λap=>?_
     ·refine Aw (Ah<|Ar<|A5<|Ad<|Gr (show Runs _ _ _ _ _ _ (e7<|e_ (fourL u v<|e_ (overL nd es u v) k) (k2:Int)) from Runs.index4 Dq ef C C om om)<|Ga C<|Ac<|Ap (S12 20 3 4 5 12 15 16 49 50 51 61 62)<|Ay<|Gf fld45_3 C<|Gl ty22 ?_)
      refine Gm C<|Gr (A3 (α:=Int) (xs:=Z) Af ef C C Bi (by first|omega|(have h8:=M om;omega))<|by first|omega|(have h8:=M om;omega))<|Gr (Bx (xs:=Z) ef C Bi (by first|omega|(have h8:=M om;omega))<|by first|omega|(have h8:=M om;omega))<|Gm C<|Gr (Cw C C<|by first|(unfold InR;omega)|(have h7:=aa om;unfold InR;omega))<|Gr (A3 (α:=Int) (xs:=Z) Af ef C C Bi (by first|omega|(have h8:=M om;omega))<|by first|omega|(have h8:=M om;omega))<|Ge0 (C1 (α:=Int) (xs:=Z) (e:=3) (new:=(e_ Z<|e_ (fourL u v<|e_ (overL nd es u v) k) (k2:Int))+b') ef C C C (by first|omega|(have h8:=M om;omega)) (by first|omega|(have h8:=M om;omega)) am) ?_
      exact Bj<|Am<|Ah<|Ap (S11 3 4 5 12 15 16 49 50 51 61 62)<|Ay<|Gr (Cw C C<|by first|(unfold InR;omega)|(have h7:=aa om;unfold InR;omega))<|Gm C<|Bj<|Cb ((k2+1),(List.set Z (e_ (fourL u v<|e_ (overL nd es u v) k) (k2:Int)).toNat ((e_ Z<|e_ (fourL u v<|e_ (overL nd es u v) k) (k2:Int))+b')))<|by dsimp only;exact ⟨om,(inc_next2 (ls:=(fourL u v<|e_ (overL nd es u v) k)) (by show k2<4;omega) ae)⟩
     exact Bt<|Aq<|Aq<|Bb<|Am<|Ah<|Ay<|Gr (Cw C C<|by first|(unfold InR;omega)|(have h7:=aa om;unfold InR;omega))<|Gm C<|Bj<|Cb ((k+1),(Z))<|by dsimp only;exact ⟨om,(by rw [ae,show k2=4 by omega,preQ_next om])⟩
    refine Bt<|Aq<|Aq<|Bb<|Ah<|Ad<|Gr (Bc (vs:=[_,_,_,_,_]) ty45) ?_
    refine Gm C<|Gr (Bk B4 C)<|Ge0 (Fb ty45) ?_
    refine Ga C<|Ga C<|Ac<|Ap (S3 14 13 12)<|Az ?_
    have aq:out=quadU b' (overL nd es u v) u v num:=by rw [ho,show k=(overL nd es u v).length by omega];unfold preQ quadU;rw [take_length,take_zero,append_nil]
    exact Cy C ty45 C C C mm C (vc 3 (.slice aw num.length av) (quadU b' (overL nd es u v) u v num)::I) (by rw [←aq];exact Bl) ⟨aw,av,rfl,rfl⟩
   refine Se1 C (A4 ty45 C) λaz=>?_
   refine Ds1 22<|Sc2 C (Aj c_ C C<|CloneI (xs:=num) (A8 hm) om) λak aj=>?_
   refine Dr 23 C (Bq (cells:=[_,_,_,_,_]) ty45 Du pl45 C C)<|Cs kr ?_
   refine Ae 25 C (Fb ty45) ?_
   rintro _ _ ⟨rfl,rfl⟩
   refine Ct kr ?_
   refine Ah<|Ap (S6 16 15 12 3 4 5)<|Ar<|Ad<|Gm C<|Gr (Bk B4 C)<|Gm C<|Ac<|A5<|B1 (σ:=Nat×(List Int)) (λs=>([(3,e7 u),(4,e7 v),(5,e7<|b'),(12,pt b4),(15,.slice ab (overL nd es u v).length ad),(16,pt az),(49,.slice ab (overL nd es u v).length ad),(50,e7<|(((overL nd es u v).length:Nat):Int)),(51,e7 ((s.1:Nat):Int))]:Env)) (λs=>vc 3 (.slice ak num.length aj) (s.2)::e8 az [e7 (nd'),.slice ga gn gc,e7<|w0+(b'*(((((nbG nd es u).length:Nat)):Int)+((((nbG nd es v).length:Nat)):Int))),e7<|n0+(b'*(((overL nd es u v).length:Nat):Int)),.slice ak num.length aj] 45::vk 200 ab ad (overL nd es u v)::e8 b4 [e7 0,.slice none 0 0,e7 0,e7 0,.slice none 0 0] 45::e8 b3 [e7 nd,.slice ea es.length ec] 38::e8 b2 [e7 (nd'),.slice ga gn gc] 38::e8 b1 [e7 nd0,va,e7 w0,e7 n0,.slice na num.length nc] 45::I) (λs=>(s.1<=(overL nd es u v).length)/\(s.2=(preQ nd es u v s.1 0).foldl (incL b') num)) (λs=>(overL nd es u v).length - s.1) (0,num) ⟨om,rfl⟩ (cx4<|cx4<|Aa Cd Bp) Bg ?_
   rintro ⟨k,out⟩ hp
   dsimp only at hp ⊢
   obtain ⟨hk,ho⟩:=hp
   have a3:out.length=num.length:=by rw [ho];exact incs_len _ _
   refine Ad<|Gr (A9 C C)<|Ac<|Ar<|A7 C (λar=>?_)<|λar=>?_
   ·refine Aw (Ah<|Ar<|A5<|Ad<|Gr (A3 (α:=Pt) (xs:=overL nd es u v) B4 ty200 C C Bi (by first|omega|(have h8:=M om;omega))<|by first|omega|(have h8:=M om;omega))<|Gr (Bv (α:=Pt) (xs:=overL nd es u v) ty200 C Bi (by first|omega|(have h8:=M om;omega))<|by first|omega|(have h8:=M om;omega))<|Ge1 (A4 ty200 C) λa9=>Ge0 (Cz ty200) ?_)
    refine Ac<|Ad<|Gm C<|Gm C<|Gr (Cg Ch ty2 C C om om)<|Gl ef ?_
    refine Gr (Cg Ch ty2 C C om om)<|Gl ef ?_
    refine Gr (E5 (cells:=[_,_,_,_]) ty155 Dq ef C C)<|Gm C<|Ac<|Ap (S11 62 61 3 4 5 12 15 16 49 50 51)<|A5<|B1 (σ:=Nat×(List Int)) (λs=>([(3,e7 u),(4,e7 v),(5,e7<|b'),(12,pt b4),(15,.slice ab (overL nd es u v).length ad),(16,pt az),(49,.slice ab (overL nd es u v).length ad),(50,e7<|(((overL nd es u v).length:Nat):Int)),(51,e7<|(k:Int)),(61,.agg #[e7 u,e7 v,e7<|(e_ (overL nd es u v) k).u,e7<|(e_ (overL nd es u v) k).v]),(62,e7 ((s.1:Nat):Int))]:Env)) (λs=>e8 a9 [e7 ((e_ (overL nd es u v) k).u),e7<|(e_ (overL nd es u v) k).v] 200::vc 3 (.slice ak num.length aj) (s.2)::e8 az [e7 (nd'),.slice ga gn gc,e7<|w0+(b'*(((((nbG nd es u).length:Nat)):Int)+((((nbG nd es v).length:Nat)):Int))),e7<|n0+(b'*(((overL nd es u v).length:Nat):Int)),.slice ak num.length aj] 45::vk 200 ab ad (overL nd es u v)::e8 b4 [e7 0,.slice none 0 0,e7 0,e7 0,.slice none 0 0] 45::e8 b3 [e7 nd,.slice ea es.length ec] 38::e8 b2 [e7 (nd'),.slice ga gn gc] 38::e8 b1 [e7 nd0,va,e7 w0,e7 n0,.slice na num.length nc] 45::I) (λs=>(s.1<=4)/\(s.2=(preQ nd es u v k s.1).foldl (incL b') num)) (λs=>4 - s.1) (0,out) ⟨om,ho⟩ (cx4<|cx4<|cx2<|Aa Cd Bp) Bg ?_
    rintro ⟨k2,Z⟩ hp
    dsimp only at hp ⊢
    obtain ⟨a4,ae⟩:=hp
    have ax:Z.length=num.length:=by rw [ae];exact incs_len _ _
    have M:=λh:k2<4=>four_in hG hu hv (B7 (xs:=overL nd es u v) (i:=(k:Int)) om om) _ (B7 (xs:=(fourL u v<|e_ (overL nd es u v) k)) (i:=(k2:Int)) om<|by show (k2:Int)<4;omega)
    have aa:=λh:k2<4=>incs_bd2 (b':=b') (num:=num) (λw hw=>by rw [au];exact preQ_in hG hu hv (k:=k) (j:=k2) (.inl om) w hw) hb a1 (x:=e_ (fourL u v<|e_ (overL nd es u v) k) (k2:Int)) (by have:=M h;omega)
    rw [←ae] at aa
    have a5:=preQ_len (nd:=nd) (es:=es) (u:=u) (v:=v) k k2 om
    refine Ad<|Gr (A9 C C)<|Ac<|Ar<|A7 C (λap=>?_)<|λap=>?_
    ·refine Aw (Ah<|Ar<|A5<|Ad<|Gr (show Runs _ _ _ _ _ _ (e7<|e_ (fourL u v<|e_ (overL nd es u v) k) (k2:Int)) from Runs.index4 Dq ef C C om om)<|Ga C<|Ac<|Ap (S12 20 3 4 5 12 15 16 49 50 51 61 62)<|Ay<|Gf fld45_3 C<|Gl ty22 ?_)
     refine Gm C<|Gr (A3 (α:=Int) (xs:=Z) Af ef C C Bi (by first|omega|(have h8:=M om;omega))<|by first|omega|(have h8:=M om;omega))<|Gr (Bx (xs:=Z) ef C Bi (by first|omega|(have h8:=M om;omega))<|by first|omega|(have h8:=M om;omega))<|Gm C<|Gr (Cw C C<|by first|(unfold InR;omega)|(have h7:=aa om;unfold InR;omega))<|Gr (A3 (α:=Int) (xs:=Z) Af ef C C Bi (by first|omega|(have h8:=M om;omega))<|by first|omega|(have h8:=M om;omega))<|Ge0 (C1 (α:=Int) (xs:=Z) (e:=3) (new:=(e_ Z<|e_ (fourL u v<|e_ (overL nd es u v) k) (k2:Int))+b') ef C C C (by first|omega|(have h8:=M om;omega)) (by first|omega|(have h8:=M om;omega)) am) ?_
     exact Bj<|Am<|Ah<|Ap (S11 3 4 5 12 15 16 49 50 51 61 62)<|Ay<|Gr (Cw C C<|by first|(unfold InR;omega)|(have h7:=aa om;unfold InR;omega))<|Gm C<|Bj<|Cb ((k2+1),(List.set Z (e_ (fourL u v<|e_ (overL nd es u v) k) (k2:Int)).toNat ((e_ Z<|e_ (fourL u v<|e_ (overL nd es u v) k) (k2:Int))+b')))<|by dsimp only;exact ⟨om,(inc_next2 (ls:=(fourL u v<|e_ (overL nd es u v) k)) (by show k2<4;omega) ae)⟩
    exact Bt<|Aq<|Aq<|Bb<|Am<|Ah<|Ay<|Gr (Cw C C<|by first|(unfold InR;omega)|(have h7:=aa om;unfold InR;omega))<|Gm C<|Bj<|Cb ((k+1),(Z))<|by dsimp only;exact ⟨om,(by rw [ae,show k2=4 by omega,preQ_next om])⟩
   refine Bt<|Aq<|Aq<|Bb<|Ah<|Ad<|Gr (Bc (vs:=[_,_,_,_,_]) ty45) ?_
   refine Gm C<|Gr (Bk B4 C)<|Ge0 (Fb ty45) ?_
   refine Ga C<|Ga C<|Ac<|Ap (S3 14 13 12)<|Az ?_
   have aq:out=quadU b' (overL nd es u v) u v num:=by rw [ho,show k=(overL nd es u v).length by omega];unfold preQ quadU;rw [take_length,take_zero,append_nil]
   exact Cy C ty45 C C C mm C (vc 3 (.slice ak num.length aj) (quadU b' (overL nd es u v) u v num)::I) (by rw [←aq];exact Bl) ⟨ak,aj,rfl,rfl⟩
  refine Se1 C (A4 ty45 C) λay=>?_
  refine Ds1 9<|Sc0 C (Aj c_ C C<|DegreeG_ok (nd:=nd) (A8 hl) v) ?_
  refine Dr 10 C (Cw C C<|by first|(unfold InR;omega)|(have h7:=aa om;unfold InR;omega))<|Dr 11 C (E1 C C<|by first|(unfold InR;omega)|(have h7:=aa om;unfold InR;omega))<|Dr 12 C (Cw C C<|by first|(unfold InR;omega)|(have h7:=aa om;unfold InR;omega))<|Ds1 22<|Sc2 C (Aj c_ C C<|CloneI (xs:=num) (A8 hm) om) λai an=>?_
  refine Dr 23 C (Bq (cells:=[_,_,_,_,_]) ty45 Du pl45 C C)<|Cs kr ?_
  refine Ae 25 C (Fb ty45) ?_
  rintro _ _ ⟨rfl,rfl⟩
  refine Ct kr ?_
  refine Ah<|Ap (S6 16 15 12 3 4 5)<|Ar<|Ad<|Gm C<|Gr (Bk B4 C)<|Gm C<|Ac<|A5<|B1 (σ:=Nat×(List Int)) (λs=>([(3,e7 u),(4,e7 v),(5,e7<|b'),(12,pt b4),(15,.slice ab (overL nd es u v).length ad),(16,pt ay),(49,.slice ab (overL nd es u v).length ad),(50,e7<|(((overL nd es u v).length:Nat):Int)),(51,e7 ((s.1:Nat):Int))]:Env)) (λs=>vc 3 (.slice ai num.length an) (s.2)::e8 ay [e7 (nd'),.slice ga gn gc,e7<|w0+(b'*(((((nbG nd es u).length:Nat)):Int)+((((nbG nd es v).length:Nat)):Int))),e7<|n0+(b'*(((overL nd es u v).length:Nat):Int)),.slice ai num.length an] 45::vk 200 ab ad (overL nd es u v)::e8 b4 [e7 0,.slice none 0 0,e7 0,e7 0,.slice none 0 0] 45::e8 b3 [e7 nd,.slice ea es.length ec] 38::e8 b2 [e7 (nd'),.slice ga gn gc] 38::e8 b1 [e7 nd0,va,e7 w0,e7 n0,.slice na num.length nc] 45::I) (λs=>(s.1<=(overL nd es u v).length)/\(s.2=(preQ nd es u v s.1 0).foldl (incL b') num)) (λs=>(overL nd es u v).length - s.1) (0,num) ⟨om,rfl⟩ (cx4<|cx4<|Aa Cd Bp) Bg ?_
  rintro ⟨k,out⟩ hp
  dsimp only at hp ⊢
  obtain ⟨hk,ho⟩:=hp
  have a3:out.length=num.length:=by rw [ho];exact incs_len _ _
  refine Ad<|Gr (A9 C C)<|Ac<|Ar<|A7 C (λar=>?_)<|λar=>?_
  ·refine Aw (Ah<|Ar<|A5<|Ad<|Gr (A3 (α:=Pt) (xs:=overL nd es u v) B4 ty200 C C Bi (by first|omega|(have h8:=M om;omega))<|by first|omega|(have h8:=M om;omega))<|Gr (Bv (α:=Pt) (xs:=overL nd es u v) ty200 C Bi (by first|omega|(have h8:=M om;omega))<|by first|omega|(have h8:=M om;omega))<|Ge1 (A4 ty200 C) λa8=>Ge0 (Cz ty200) ?_)
   refine Ac<|Ad<|Gm C<|Gm C<|Gr (Cg Ch ty2 C C om om)<|Gl ef ?_
   refine Gr (Cg Ch ty2 C C om om)<|Gl ef ?_
   refine Gr (E5 (cells:=[_,_,_,_]) ty155 Dq ef C C)<|Gm C<|Ac<|Ap (S11 62 61 3 4 5 12 15 16 49 50 51)<|A5<|B1 (σ:=Nat×(List Int)) (λs=>([(3,e7 u),(4,e7 v),(5,e7<|b'),(12,pt b4),(15,.slice ab (overL nd es u v).length ad),(16,pt ay),(49,.slice ab (overL nd es u v).length ad),(50,e7<|(((overL nd es u v).length:Nat):Int)),(51,e7<|(k:Int)),(61,.agg #[e7 u,e7 v,e7<|(e_ (overL nd es u v) k).u,e7<|(e_ (overL nd es u v) k).v]),(62,e7 ((s.1:Nat):Int))]:Env)) (λs=>e8 a8 [e7 ((e_ (overL nd es u v) k).u),e7<|(e_ (overL nd es u v) k).v] 200::vc 3 (.slice ai num.length an) (s.2)::e8 ay [e7 (nd'),.slice ga gn gc,e7<|w0+(b'*(((((nbG nd es u).length:Nat)):Int)+((((nbG nd es v).length:Nat)):Int))),e7<|n0+(b'*(((overL nd es u v).length:Nat):Int)),.slice ai num.length an] 45::vk 200 ab ad (overL nd es u v)::e8 b4 [e7 0,.slice none 0 0,e7 0,e7 0,.slice none 0 0] 45::e8 b3 [e7 nd,.slice ea es.length ec] 38::e8 b2 [e7 (nd'),.slice ga gn gc] 38::e8 b1 [e7 nd0,va,e7 w0,e7 n0,.slice na num.length nc] 45::I) (λs=>(s.1<=4)/\(s.2=(preQ nd es u v k s.1).foldl (incL b') num)) (λs=>4 - s.1) (0,out) ⟨om,ho⟩ (cx4<|cx4<|cx2<|Aa Cd Bp) Bg ?_
   rintro ⟨k2,Z⟩ hp
   dsimp only at hp ⊢
   obtain ⟨a4,ae⟩:=hp
   have ax:Z.length=num.length:=by rw [ae];exact incs_len _ _
   have M:=λh:k2<4=>four_in hG hu hv (B7 (xs:=overL nd es u v) (i:=(k:Int)) om om) _ (B7 (xs:=(fourL u v<|e_ (overL nd es u v) k)) (i:=(k2:Int)) om<|by show (k2:Int)<4;omega)
   have aa:=λh:k2<4=>incs_bd2 (b':=b') (num:=num) (λw hw=>by rw [au];exact preQ_in hG hu hv (k:=k) (j:=k2) (.inl om) w hw) hb a1 (x:=e_ (fourL u v<|e_ (overL nd es u v) k) (k2:Int)) (by have:=M h;omega)
   rw [←ae] at aa
   have a5:=preQ_len (nd:=nd) (es:=es) (u:=u) (v:=v) k k2 om
   refine Ad<|Gr (A9 C C)<|Ac<|Ar<|A7 C (λap=>?_)<|λap=>?_
   ·refine Aw (Ah<|Ar<|A5<|Ad<|Gr (show Runs _ _ _ _ _ _ (e7<|e_ (fourL u v<|e_ (overL nd es u v) k) (k2:Int)) from Runs.index4 Dq ef C C om om)<|Ga C<|Ac<|Ap (S12 20 3 4 5 12 15 16 49 50 51 61 62)<|Ay<|Gf fld45_3 C<|Gl ty22 ?_)
    refine Gm C<|Gr (A3 (α:=Int) (xs:=Z) Af ef C C Bi (by first|omega|(have h8:=M om;omega))<|by first|omega|(have h8:=M om;omega))<|Gr (Bx (xs:=Z) ef C Bi (by first|omega|(have h8:=M om;omega))<|by first|omega|(have h8:=M om;omega))<|Gm C<|Gr (Cw C C<|by first|(unfold InR;omega)|(have h7:=aa om;unfold InR;omega))<|Gr (A3 (α:=Int) (xs:=Z) Af ef C C Bi (by first|omega|(have h8:=M om;omega))<|by first|omega|(have h8:=M om;omega))<|Ge0 (C1 (α:=Int) (xs:=Z) (e:=3) (new:=(e_ Z<|e_ (fourL u v<|e_ (overL nd es u v) k) (k2:Int))+b') ef C C C (by first|omega|(have h8:=M om;omega)) (by first|omega|(have h8:=M om;omega)) am) ?_
    exact Bj<|Am<|Ah<|Ap (S11 3 4 5 12 15 16 49 50 51 61 62)<|Ay<|Gr (Cw C C<|by first|(unfold InR;omega)|(have h7:=aa om;unfold InR;omega))<|Gm C<|Bj<|Cb ((k2+1),(List.set Z (e_ (fourL u v<|e_ (overL nd es u v) k) (k2:Int)).toNat ((e_ Z<|e_ (fourL u v<|e_ (overL nd es u v) k) (k2:Int))+b')))<|by dsimp only;exact ⟨om,(inc_next2 (ls:=(fourL u v<|e_ (overL nd es u v) k)) (by show k2<4;omega) ae)⟩
   exact Bt<|Aq<|Aq<|Bb<|Am<|Ah<|Ay<|Gr (Cw C C<|by first|(unfold InR;omega)|(have h7:=aa om;unfold InR;omega))<|Gm C<|Bj<|Cb ((k+1),(Z))<|by dsimp only;exact ⟨om,(by rw [ae,show k2=4 by omega,preQ_next om])⟩
  refine Bt<|Aq<|Aq<|Bb<|Ah<|Ad<|Gr (Bc (vs:=[_,_,_,_,_]) ty45) ?_
  refine Gm C<|Gr (Bk B4 C)<|Ge0 (Fb ty45) ?_
  refine Ga C<|Ga C<|Ac<|Ap (S3 14 13 12)<|Az ?_
  have aq:out=quadU b' (overL nd es u v) u v num:=by rw [ho,show k=(overL nd es u v).length by omega];unfold preQ quadU;rw [take_length,take_zero,append_nil]
  exact Cy C ty45 C C C mm C (vc 3 (.slice ai num.length an) (quadU b' (overL nd es u v) u v num)::I) (by rw [←aq];exact Bl) ⟨ai,an,rfl,rfl⟩
 refine Se1 C (A4 ty45 C) λa0=>?_
 refine Ds1 6<|Sc0 C (Aj c_ C C<|DegreeG_ok (nd:=nd) (A8 hl) u) ?_
 refine Ds1 9<|Sc0 C (Aj c_ C C<|DegreeG_ok (nd:=nd) (A8 hl) v) ?_
 refine Dr 10 C (Cw C C<|by first|(unfold InR;omega)|(have h7:=aa om;unfold InR;omega))<|Dr 11 C (E1 C C<|by first|(unfold InR;omega)|(have h7:=aa om;unfold InR;omega))<|Dr 12 C (Cw C C<|by first|(unfold InR;omega)|(have h7:=aa om;unfold InR;omega))<|Ds1 22<|Sc2 C (Aj c_ C C<|CloneI (xs:=num) (A8 hm) om) λah ao=>?_
 refine Dr 23 C (Bq (cells:=[_,_,_,_,_]) ty45 Du pl45 C C)<|Cs kr ?_
 refine Ae 25 C (Fb ty45) ?_
 rintro _ _ ⟨rfl,rfl⟩
 refine Ct kr ?_
 refine Ah<|Ap (S6 16 15 12 3 4 5)<|Ar<|Ad<|Gm C<|Gr (Bk B4 C)<|Gm C<|Ac<|A5<|B1 (σ:=Nat×(List Int)) (λs=>([(3,e7 u),(4,e7 v),(5,e7<|b'),(12,pt b4),(15,.slice ab (overL nd es u v).length ad),(16,pt a0),(49,.slice ab (overL nd es u v).length ad),(50,e7<|(((overL nd es u v).length:Nat):Int)),(51,e7 ((s.1:Nat):Int))]:Env)) (λs=>vc 3 (.slice ah num.length ao) (s.2)::e8 a0 [e7 (nd'),.slice ga gn gc,e7<|w0+(b'*(((((nbG nd es u).length:Nat)):Int)+((((nbG nd es v).length:Nat)):Int))),e7<|n0+(b'*(((overL nd es u v).length:Nat):Int)),.slice ah num.length ao] 45::vk 200 ab ad (overL nd es u v)::e8 b4 [e7 0,.slice none 0 0,e7 0,e7 0,.slice none 0 0] 45::e8 b3 [e7 nd,.slice ea es.length ec] 38::e8 b2 [e7 (nd'),.slice ga gn gc] 38::e8 b1 [e7 nd0,va,e7 w0,e7 n0,.slice na num.length nc] 45::I) (λs=>(s.1<=(overL nd es u v).length)/\(s.2=(preQ nd es u v s.1 0).foldl (incL b') num)) (λs=>(overL nd es u v).length - s.1) (0,num) ⟨om,rfl⟩ (cx4<|cx4<|Aa Cd Bp) Bg ?_
 rintro ⟨k,out⟩ hp
 dsimp only at hp ⊢
 obtain ⟨hk,ho⟩:=hp
 have a3:out.length=num.length:=by rw [ho];exact incs_len _ _
 refine Ad<|Gr (A9 C C)<|Ac<|Ar<|A7 C (λar=>?_)<|λar=>?_
 ·refine Aw (Ah<|Ar<|A5<|Ad<|Gr (A3 (α:=Pt) (xs:=overL nd es u v) B4 ty200 C C Bi (by first|omega|(have h8:=M om;omega))<|by first|omega|(have h8:=M om;omega))<|Gr (Bv (α:=Pt) (xs:=overL nd es u v) ty200 C Bi (by first|omega|(have h8:=M om;omega))<|by first|omega|(have h8:=M om;omega))<|Ge1 (A4 ty200 C) λa7=>Ge0 (Cz ty200) ?_)
  refine Ac<|Ad<|Gm C<|Gm C<|Gr (Cg Ch ty2 C C om om)<|Gl ef ?_
  refine Gr (Cg Ch ty2 C C om om)<|Gl ef ?_
  refine Gr (E5 (cells:=[_,_,_,_]) ty155 Dq ef C C)<|Gm C<|Ac<|Ap (S11 62 61 3 4 5 12 15 16 49 50 51)<|A5<|B1 (σ:=Nat×(List Int)) (λs=>([(3,e7 u),(4,e7 v),(5,e7<|b'),(12,pt b4),(15,.slice ab (overL nd es u v).length ad),(16,pt a0),(49,.slice ab (overL nd es u v).length ad),(50,e7<|(((overL nd es u v).length:Nat):Int)),(51,e7<|(k:Int)),(61,.agg #[e7 u,e7 v,e7<|(e_ (overL nd es u v) k).u,e7<|(e_ (overL nd es u v) k).v]),(62,e7 ((s.1:Nat):Int))]:Env)) (λs=>e8 a7 [e7 ((e_ (overL nd es u v) k).u),e7<|(e_ (overL nd es u v) k).v] 200::vc 3 (.slice ah num.length ao) (s.2)::e8 a0 [e7 (nd'),.slice ga gn gc,e7<|w0+(b'*(((((nbG nd es u).length:Nat)):Int)+((((nbG nd es v).length:Nat)):Int))),e7<|n0+(b'*(((overL nd es u v).length:Nat):Int)),.slice ah num.length ao] 45::vk 200 ab ad (overL nd es u v)::e8 b4 [e7 0,.slice none 0 0,e7 0,e7 0,.slice none 0 0] 45::e8 b3 [e7 nd,.slice ea es.length ec] 38::e8 b2 [e7 (nd'),.slice ga gn gc] 38::e8 b1 [e7 nd0,va,e7 w0,e7 n0,.slice na num.length nc] 45::I) (λs=>(s.1<=4)/\(s.2=(preQ nd es u v k s.1).foldl (incL b') num)) (λs=>4 - s.1) (0,out) ⟨om,ho⟩ (cx4<|cx4<|cx2<|Aa Cd Bp) Bg ?_
  rintro ⟨k2,Z⟩ hp
  dsimp only at hp ⊢
  obtain ⟨a4,ae⟩:=hp
  have ax:Z.length=num.length:=by rw [ae];exact incs_len _ _
  have M:=λh:k2<4=>four_in hG hu hv (B7 (xs:=overL nd es u v) (i:=(k:Int)) om om) _ (B7 (xs:=(fourL u v<|e_ (overL nd es u v) k)) (i:=(k2:Int)) om<|by show (k2:Int)<4;omega)
  have aa:=λh:k2<4=>incs_bd2 (b':=b') (num:=num) (λw hw=>by rw [au];exact preQ_in hG hu hv (k:=k) (j:=k2) (.inl om) w hw) hb a1 (x:=e_ (fourL u v<|e_ (overL nd es u v) k) (k2:Int)) (by have:=M h;omega)
  rw [←ae] at aa
  have a5:=preQ_len (nd:=nd) (es:=es) (u:=u) (v:=v) k k2 om
  refine Ad<|Gr (A9 C C)<|Ac<|Ar<|A7 C (λap=>?_)<|λap=>?_
  ·refine Aw (Ah<|Ar<|A5<|Ad<|Gr (show Runs _ _ _ _ _ _ (e7<|e_ (fourL u v<|e_ (overL nd es u v) k) (k2:Int)) from Runs.index4 Dq ef C C om om)<|Ga C<|Ac<|Ap (S12 20 3 4 5 12 15 16 49 50 51 61 62)<|Ay<|Gf fld45_3 C<|Gl ty22 ?_)
   refine Gm C<|Gr (A3 (α:=Int) (xs:=Z) Af ef C C Bi (by first|omega|(have h8:=M om;omega))<|by first|omega|(have h8:=M om;omega))<|Gr (Bx (xs:=Z) ef C Bi (by first|omega|(have h8:=M om;omega))<|by first|omega|(have h8:=M om;omega))<|Gm C<|Gr (Cw C C<|by first|(unfold InR;omega)|(have h7:=aa om;unfold InR;omega))<|Gr (A3 (α:=Int) (xs:=Z) Af ef C C Bi (by first|omega|(have h8:=M om;omega))<|by first|omega|(have h8:=M om;omega))<|Ge0 (C1 (α:=Int) (xs:=Z) (e:=3) (new:=(e_ Z<|e_ (fourL u v<|e_ (overL nd es u v) k) (k2:Int))+b') ef C C C (by first|omega|(have h8:=M om;omega)) (by first|omega|(have h8:=M om;omega)) am) ?_
   exact Bj<|Am<|Ah<|Ap (S11 3 4 5 12 15 16 49 50 51 61 62)<|Ay<|Gr (Cw C C<|by first|(unfold InR;omega)|(have h7:=aa om;unfold InR;omega))<|Gm C<|Bj<|Cb ((k2+1),(List.set Z (e_ (fourL u v<|e_ (overL nd es u v) k) (k2:Int)).toNat ((e_ Z<|e_ (fourL u v<|e_ (overL nd es u v) k) (k2:Int))+b')))<|by dsimp only;exact ⟨om,(inc_next2 (ls:=(fourL u v<|e_ (overL nd es u v) k)) (by show k2<4;omega) ae)⟩
  exact Bt<|Aq<|Aq<|Bb<|Am<|Ah<|Ay<|Gr (Cw C C<|by first|(unfold InR;omega)|(have h7:=aa om;unfold InR;omega))<|Gm C<|Bj<|Cb ((k+1),(Z))<|by dsimp only;exact ⟨om,(by rw [ae,show k2=4 by omega,preQ_next om])⟩
 refine Bt<|Aq<|Aq<|Bb<|Ah<|Ad<|Gr (Bc (vs:=[_,_,_,_,_]) ty45) ?_
 refine Gm C<|Gr (Bk B4 C)<|Ge0 (Fb ty45) ?_
 refine Ga C<|Ga C<|Ac<|Ap (S3 14 13 12)<|Az ?_
 have aq:out=quadU b' (overL nd es u v) u v num:=by rw [ho,show k=(overL nd es u v).length by omega];unfold preQ quadU;rw [take_length,take_zero,append_nil]
 exact Cy C ty45 C C C mm C (vc 3 (.slice ah num.length ao) (quadU b' (overL nd es u v) u v num)::I) (by rw [←aq];exact Bl) ⟨ah,ao,rfl,rfl⟩
theorem ty218:tyF Tryz.prog 218=some (4096,true,32768,cells (replicate 4096 (0:Int))):=by kernel_rfl
theorem sum_ind_bd(f:Nat->Bool):∀n:Nat,0<=sumN n (λx=>ind (f x))/\sumN n (λx=>ind (f x))<=(n:Int)
 |0=>by simp [sumN]
 |n+1=>by
  have M:=sum_ind_bd f n
  have Z:0<=ind (f n)/\ind (f n)<=1:=by rcases ind_01 (f n) with h|h<;>omega
  simp only [sumN];omega
theorem not_mem_take{l:List Int}{p:Nat}(h:l.Nodup)(M:p<l.length):e_ l p∉l.take p:=λhm=>by
 have Z:=h.sublist (List.take_sublist (p+1) l)
 rw [Cj l p M] at Z
 exact (List.nodup_append.1 Z).2.2 _ hm _ (mem_singleton.2 rfl) rfl
section
variable {nd:Int}{es:List Pt}{tb:List Int}{k p q:Nat}
def coK(nd:Int)(es:List Pt)(k i j:Nat):Int:=if i=j then 0 else sumN k λx=>ind (adjE nd es x i&&adjE nd es x j)
theorem coK_succ(k i j:Nat):coK nd es (k+1) i j=coK nd es k i j+ind (decide (i≠j/\(i:Int)∈nbG nd es (k:Int)/\(j:Int)∈nbG nd es (k:Int))):=by
 unfold coK
 by_cases h:i=j
 ·rw [if_pos h,if_pos h,decide_eq_false<|λq=>q.1 h];rfl
 rw [if_neg h,if_neg h]
 show sumN k _+ind _=_
 congr 2
 unfold adjE
 rw [←Bool.decide_and,decide_eq_decide]
 exact ⟨λq=>⟨h,q⟩,λq=>q.2⟩
theorem coK_bd(k i j:Nat):0<=coK nd es k i j/\coK nd es k i j<=(k:Int):=by
 unfold coK
 split
 ·omega
 exact sum_ind_bd _ k
theorem coK_all(Z:GrOk nd es)(i j:Nat):coK nd es nd.toNat i j=coN nd.toNat (adjE nd es) i j:=by
 unfold coK coN
 split
 ·rfl
 exact C6 _ λx _=>by rw [(adjE_ok Z).sym i x,(adjE_ok Z).sym j x]
theorem coN_bd(n:Nat)(e:Nat->Nat->Bool)(i j:Nat):0<=coN n e i j/\coN n e i j<=(n:Int):=by
 unfold coN
 split
 ·omega
 exact sum_ind_bd _ n
structure TabI (nd:Int) (es:List Pt) (k p q:Nat) (tb:List Int):Prop where
 len:tb.length=4096
 val:∀i j:Nat,i<64->j<64->e_ tb ((i:Int)*64+(j:Int))=coK nd es k i j+ind (decide<|i≠j/\(((i:Int)∈(nbG nd es (k:Int)).take p/\(j:Int)∈nbG nd es (k:Int))\/((i:Int)=e_ (nbG nd es (k:Int)) (p:Int)/\(j:Int)∈(nbG nd es (k:Int)).take q)))
theorem TabI.zero:TabI nd es 0 0 0 (replicate 4096 (0:Int)):=⟨length_replicate,λi j hi hj=>by
 have M:coK nd es 0 i j=0:=by unfold coK;split<;>rfl
 have Z:((i:Int)*64+(j:Int))=((i*64+j:Nat):Int):=by omega
 rw [M,ind_d,if_neg (by rintro ⟨_,⟨q,_⟩|⟨_,q⟩⟩<;>cases q),Z,C7 _ _ (by rw [length_replicate];omega),List.getElem_replicate];rfl⟩
theorem nb_rng64(Z:GrOk nd es){p:Nat}(M:p<(nbG nd es x).length):0<=e_ (nbG nd es x) p/\e_ (nbG nd es x) p<nd/\nd<=64:=by
 have h1:=nbe_rng Z (B7 (xs:=nbG nd es x) (i:=(p:Int)) om om)
 have h2:=Z.rng
 omega
theorem TabI.yes(hG:GrOk nd es)(h:TabI nd es k p q tb)(hp:p<(nbG nd es (k:Int)).length)(hq:q<(nbG nd es (k:Int)).length)(aa:e_ (nbG nd es (k:Int)) (p:Int)≠e_ (nbG nd es (k:Int)) (q:Int)) :
  TabI nd es k p (q+1) (List.set tb (e_ (nbG nd es (k:Int)) (p:Int)*64+e_ (nbG nd es (k:Int)) (q:Int)).toNat (e_ tb (e_ (nbG nd es (k:Int)) (p:Int)*64+e_ (nbG nd es (k:Int)) (q:Int))+1)):=by
 have h1:=not_mem_take (nb_nodup nd es (k:Int)) hp
 have h2:=not_mem_take (nb_nodup nd es (k:Int)) hq
 have ra:=nb_rng64 hG hp
 have rb:=nb_rng64 hG hq
 have ae:=B7 (xs:=nbG nd es (k:Int)) (i:=(q:Int)) om om
 have ab:=Cj (nbG nd es (k:Int)) q hq
 have hv:=h.val
 have M:=h.len
 refine ⟨by rw [List.length_set];exact M,λi j hi hj=>?_⟩
 generalize e_ (nbG nd es (k:Int)) (p:Int)=a at h1 ra aa hv ⊢
 generalize e_ (nbG nd es (k:Int)) (q:Int)=b at h2 rb ae ab aa ⊢
 rw [En _ _ _ _ om om (by rw [M];omega),ab]
 by_cases e:a*64+b=(i:Int)*64+(j:Int)
 ·have ei:(i:Int)=a:=by omega
  have ej:(j:Int)=b:=by omega
  have ad:i≠j:=λq=>aa om
  rw [if_pos e,e,hv i j hi hj,ind_d,ind_d,if_neg,if_pos ⟨ad,.inr ⟨ei,List.mem_append_right _<|mem_singleton.2 ej⟩⟩]
  ·omega
  rintro ⟨_,⟨Z,_⟩|⟨_,Z⟩⟩
  ·exact h1<|ei▸Z
  exact h2<|ej▸Z
 rw [if_neg e,hv i j hi hj]
 congr 2
 rw [decide_eq_decide,mem_append,mem_singleton]
 constructor
 ·rintro ⟨Z,h4|h4⟩
  ·exact ⟨Z,.inl h4⟩
  exact ⟨Z,.inr ⟨h4.1,.inl h4.2⟩⟩
 rintro ⟨Z,h4|⟨h4,h5|h5⟩⟩
 ·exact ⟨Z,.inl h4⟩
 ·exact ⟨Z,.inr ⟨h4,h5⟩⟩
 exact absurd (by rw [h4,h5]) e
theorem TabI.no(h:TabI nd es k p q tb)(hq:q<(nbG nd es (k:Int)).length)(he:e_ (nbG nd es (k:Int)) (p:Int)=e_ (nbG nd es (k:Int)) (q:Int)):TabI nd es k p (q+1) tb:=⟨h.len,λi j hi M=>by
 rw [h.val i j hi M,Cj (nbG nd es (k:Int)) q hq]
 congr 2
 rw [decide_eq_decide,mem_append,mem_singleton]
 constructor
 ·rintro ⟨Z,h4|h4⟩
  ·exact ⟨Z,.inl h4⟩
  exact ⟨Z,.inr ⟨h4.1,.inl h4.2⟩⟩
 rintro ⟨Z,h4|⟨h4,h5|h5⟩⟩
 ·exact ⟨Z,.inl h4⟩
 ·exact ⟨Z,.inr ⟨h4,h5⟩⟩
 exact absurd om Z⟩
theorem TabI.row(h:TabI nd es k p (nbG nd es (k:Int)).length tb)(hp:p<(nbG nd es (k:Int)).length):TabI nd es k (p+1) 0 tb:=⟨h.len,λi j hi hj=>by
 rw [h.val i j hi hj,Cj (nbG nd es (k:Int)) p hp,take_length,take_zero]
 congr 2
 rw [decide_eq_decide,mem_append,mem_singleton]
 constructor
 ·rintro ⟨Z,h4|h4⟩
  ·exact ⟨Z,.inl ⟨.inl h4.1,h4.2⟩⟩
  exact ⟨Z,.inl ⟨.inr h4.1,h4.2⟩⟩
 rintro ⟨Z,⟨h4|h4,M⟩|⟨_,M⟩⟩
 ·exact ⟨Z,.inl ⟨h4,M⟩⟩
 ·exact ⟨Z,.inr ⟨h4,M⟩⟩
 cases M⟩
theorem TabI.node(h:TabI nd es k (nbG nd es (k:Int)).length 0 tb):TabI nd es (k+1) 0 0 tb:=⟨h.len,λi j hi hj=>by
 rw [h.val i j hi hj,coK_succ,ind_d,ind_d,ind_d]
 by_cases hA:i≠j/\(i:Int)∈nbG nd es (k:Int)/\(j:Int)∈nbG nd es (k:Int)
 ·rw [if_pos ⟨hA.1,.inl ⟨by rw [take_length];exact hA.2.1,hA.2.2⟩⟩,if_pos hA,if_neg<|by rintro ⟨_,⟨q,_⟩|⟨_,q⟩⟩<;>cases q];omega
 rw [if_neg (by rintro ⟨h3,⟨Z,M⟩|⟨_,q⟩⟩;(· rw [take_length] at Z;exact hA ⟨h3,Z,M⟩);(· cases q)),if_neg hA,if_neg (by rintro ⟨_,⟨q,_⟩|⟨_,q⟩⟩<;>cases q)];omega⟩
theorem TabI.bd(h:TabI nd es k p q tb){i j:Int}(h0:0<=i/\i<64)(Z:0<=j/\j<64):0<=e_ tb (i*64+j)/\e_ tb (i*64+j)<=(k:Int)+1:=by
 have M:=h.val i.toNat j.toNat om om
 rw [Int.toNat_of_nonneg h0.1,Int.toNat_of_nonneg Z.1] at M
 have h3:=coK_bd (nd:=nd) (es:=es) k i.toNat j.toNat
 rcases ind_01 (decide<|i.toNat≠j.toNat/\((i∈(nbG nd es (k:Int)).take p/\j∈nbG nd es (k:Int))\/(i=e_ (nbG nd es (k:Int)) (p:Int)/\j∈(nbG nd es (k:Int)).take q))) with h4|h4<;>omega
structure TabP (nd:Int) (es:List Pt) (tb:List Int):Prop where
 len:tb.length=4096
 val:∀i j:Nat,i<64->j<64->e_ tb ((i:Int)*64+(j:Int))=coN nd.toNat (adjE nd es) i j
theorem TabI.all(hG:GrOk nd es)(h:TabI nd es nd.toNat 0 0 tb):TabP nd es tb:=⟨h.len,λi j hi M=>by
 rw [h.val i j hi M,coK_all hG,ind_d,if_neg,Int.add_zero]
 rintro ⟨_,⟨Z,_⟩|⟨_,Z⟩⟩<;>cases Z⟩
def cK(nd:Int)(es:List Pt)(v w:Nat):Int:=sumN w λx=>prs (coN nd.toNat (adjE nd es) v x)
theorem cK_bd(Z:nd<=64)(v:Nat):∀w:Nat,0<=cK nd es v w/\cK nd es v w<=2016*(w:Int)
 |0=>by simp [cK,sumN]
 |w+1=>by
  have h1:=cK_bd Z v w
  have h2:=coN_bd nd.toNat (adjE nd es) v w
  have M:=prs_bd (n:=coN nd.toNat (adjE nd es) v w) ⟨by omega,by omega⟩
  have e:cK nd es v (w+1)=cK nd es v w+prs (coN nd.toNat (adjE nd es) v w):=rfl
  rw [e];omega
theorem quadW_cK(v:Nat):quadW nd es v=cK nd es v nd.toNat:=rfl
theorem quadW_bd(Z:nd<=64)(v:Nat):0<=quadW nd es v/\quadW nd es v<=129024:=by
 have:=cK_bd (es:=es) Z v nd.toNat
 rw [quadW_cK];omega
theorem qsum_bd(Z:nd<=64):∀k:Nat,0<=sumN k (quadW nd es)/\sumN k (quadW nd es)<=129024*(k:Int)
 |0=>by simp [sumN]
 |k+1=>by
  have h1:=qsum_bd Z k
  have M:=quadW_bd (es:=es) Z k
  simp only [sumN];omega
theorem quadC_bd(Z:GrOk nd es):0<=quadC nd es/\quadC nd es<=3000000:=by
 have h1:=quad_sum Z
 have M:=qsum_bd (es:=es) Z.rng.2 nd.toNat
 have:=Z.rng
 omega
theorem quadL_bd(M:GrOk nd es):∀x∈quadL nd es,0<=x/\x<=1000000:=λx Z=>by
 obtain ⟨i,hi,rfl⟩:=mem_atN Z
 rw [quadL_len] at hi
 rw [quadL_at hi]
 have:=quadW_bd (es:=es) M.rng.2 i
 omega
theorem wedgeC_bd(Z:GrOk nd es):0<=wedgeC nd es/\wedgeC nd es<=1000000:=by
 have M:=wedK_bd nd es nd.toNat
 have e:wedgeC nd es=wedK nd es nd.toNat:=rfl
 have:=Z.rng
 rw [e];omega
structure QdI (nd:Int) (es:List Pt) (k w:Nat) (out:List Int):Prop where
 len:out.length=nd.toNat
 val:∀i:Nat,i<nd.toNat->e_ out i=if i<k then quadW nd es i else if i=k then cK nd es k w else 0
theorem QdI.zero:QdI nd es 0 0 (replicate nd.toNat (0:Int)):=⟨length_replicate,λi hi=>by
 rw [C7 _ i (by rw [length_replicate];exact hi),List.getElem_replicate,if_neg om]
 split<;>rfl⟩
theorem QdI.step(h:QdI nd es k w out)(Z:k<nd.toNat):QdI nd es k (w+1) (List.set out ((k:Int)).toNat (e_ out k+prs (coN nd.toNat (adjE nd es) k w))):=⟨by rw [List.length_set];exact h.len,λi hi=>by
 rw [En _ _ _ _ om om (by rw [h.len];omega)]
 by_cases e:(k:Int)=(i:Int)
 ·have e':i=k:=by omega
  subst e'
  rw [if_pos rfl,h.val i hi,if_neg om,if_pos rfl,if_neg om,if_pos rfl];rfl
 rw [if_neg e,h.val i hi,if_neg (show ¬i=k by omega),if_neg (show ¬i=k by omega)]⟩
theorem QdI.next(h:QdI nd es k nd.toNat out):QdI nd es (k+1) 0 out:=⟨h.len,λi hi=>by
 rw [h.val i hi]
 by_cases e:i=k
 ·subst e;rw [if_neg om,if_pos rfl,if_pos om];rfl
 by_cases e2:i<k
 ·rw [if_pos e2,if_pos om]
 rw [if_neg e2,if_neg e,if_neg om]
 split
 ·rfl
 rfl⟩
theorem QdI.at(h:QdI nd es k w out)(Z:k<nd.toNat):e_ out k=cK nd es k w:=by rw [h.val k Z,if_neg om,if_pos rfl]
theorem QdI.all(h:QdI nd es nd.toNat 0 out):out=quadL nd es:=Fd (by rw [h.len,quadL_len]) λi hi=>by
 rw [h.len] at hi
 rw [h.val i hi,if_pos hi,quadL_at hi]
theorem quad_ins{u v:Int}(h:OneE nd es es' u v):wedgeC nd es+1*(((nbG nd es u).length:Int)+((nbG nd es v).length:Int))=wedgeC nd es'/\quadC nd es+1*((overL nd es u v).length:Int)=quadC nd es':=by have:=h.quad;omega
theorem quad_del{u v:Int}(h:OneE nd es es' u v):wedgeC nd es' + -1*(((nbG nd es u).length:Int)+((nbG nd es v).length:Int))=wedgeC nd es/\quadC nd es' + -1*((overL nd es u v).length:Int)=quadC nd es:=by have:=h.quad;omega
end
theorem SharedQ_ok{nd:Int}{es:List Pt}(hl:Sl κ I va es)(hG:GrOk nd es)(hT:TabRd κ I 0 tzCells):eu Tryz.prog κ 134 [.agg #[e7 nd,va]] I (λr J=>∃(b:Nat) (tb:List Int),r = (pt b)/\TabP nd es tb/\J=e8 b (cells tb) 218::I):=by
 have an:=hG.rng
 refine Ce1 Tryz.func134 C C ?_
 refine Ad<|Ge1 (Bd (cs:=[_,_]) C C C) λb1=>Ga C<|Ac<|Ad<|Ge1 (A4 ty218 C) λb2=>Ac<|Ar<|Ad<|Gf fld38_0 C<|Gl ef ?_
 refine Gm C<|Ac<|A5<|B1 (σ:=Nat×(List Int)) (λs=>([(1,pt b1),(3,pt b2),(11,e7 nd),(12,e7 ((s.1:Nat):Int))]:Env)) (λs=>e8 b2 (cells (s.2:List Int)) 218::e8 b1 [e7 nd,va] 38::I) (λs=>((s.1:Int)<=nd)/\(TabI nd es s.1 0 0 s.2)) (λs=>nd.toNat - s.1) (0,replicate 4096 (0:Int)) ⟨om,TabI.zero⟩ (cx2<|Aa C<|Aa Cd Bp) Bl ?_
 rintro ⟨k,tb⟩ hp
 dsimp only at hp ⊢
 obtain ⟨hk,ht⟩:=hp
 have ao:=nbG_len nd es (k:Int)
 refine Ad<|Gr (A9 C C)<|Ac<|Ar<|A7 C (λc13=>?_)<|λc13=>?_
 ·refine Aw (Ah<|Ar<|A5<|Ad<|Gm C<|Ga C<|Ac<|Ad<|Gl2 ty38 ?_)
  refine Gm C<|Gc2 (Aj c_ C C<|NeighG_ok (nd:=nd) (A8 hl) (k:Int)<|Bn hT Ax) λab aa=>?_
  refine Ga C<|Ac<|Ad<|Gm C<|Gr (Bk Af C)<|Gm C<|Ac<|Ap (S8 20 19 18 5 1 3 11 12)<|A5<|B1 (σ:=Nat×(List Int)) (λs=>([(1,pt b1),(3,pt b2),(5,.slice ab (nbG nd es (k:Int)).length aa),(11,e7 nd),(12,e7<|(k:Int)),(18,.slice ab (nbG nd es (k:Int)).length aa),(19,e7<|(((nbG nd es (k:Int)).length:Nat):Int)),(20,e7 ((s.1:Nat):Int))]:Env)) (λs=>vk 3 ab aa (nbG nd es (k:Int))::e8 b2 (cells (s.2:List Int)) 218::e8 b1 [e7 nd,va] 38::I) (λs=>(s.1<=(nbG nd es (k:Int)).length)/\(TabI nd es k s.1 0 s.2)) (λs=>(nbG nd es (k:Int)).length - s.1) (0,tb) ⟨om,ht⟩ (cx4<|cx2<|Aa C<|Aa Cd Bp) Bl ?_
  rintro ⟨p,ad⟩ hp
  dsimp only at hp ⊢
  obtain ⟨hp,ae⟩:=hp
  refine Ad<|Gr (A9 C C)<|Ac<|Ar<|A7 C (λak=>?_)<|λak=>?_
  ·refine Aw (Ah<|Ar<|A5<|Ad<|Gr (A3 (α:=Int) (xs:=nbG nd es (k:Int)) Af ef C C Bi om om)<|Gr (Bx (xs:=nbG nd es (k:Int)) ef C Bi om om)<|Ga C ?_)
   have aq:=nb_rng64 hG (x:=(k:Int)) (p:=p) om
   refine Ac<|Ad<|Gm C<|Gr (Bk Af C)<|Gm C<|Ac<|Ap (S12 26 25 24 7 1 3 5 11 12 18 19 20)<|A5<|B1 (σ:=Nat×(List Int)) (λs=>([(1,pt b1),(3,pt b2),(5,.slice ab (nbG nd es (k:Int)).length aa),(7,e7<|e_ (nbG nd es (k:Int)) (p:Int)),(11,e7 nd),(12,e7<|(k:Int)),(18,.slice ab (nbG nd es (k:Int)).length aa),(19,e7<|(((nbG nd es (k:Int)).length:Nat):Int)),(20,e7<|(p:Int)),(24,.slice ab (nbG nd es (k:Int)).length aa),(25,e7<|(((nbG nd es (k:Int)).length:Nat):Int)),(26,e7 ((s.1:Nat):Int))]:Env)) (λs=>vk 3 ab aa (nbG nd es (k:Int))::e8 b2 (cells (s.2:List Int)) 218::e8 b1 [e7 nd,va] 38::I) (λs=>(s.1<=(nbG nd es (k:Int)).length)/\(TabI nd es k p s.1 s.2)) (λs=>(nbG nd es (k:Int)).length - s.1) (0,ad) ⟨om,ae⟩ (cx4<|cx4<|cx2<|Aa C<|Aa Cd Bp) Bl ?_
   rintro ⟨q,Z⟩ hp
   dsimp only at hp ⊢
   obtain ⟨hq,M⟩:=hp
   have ap:=M.len
   refine Ad<|Gr (A9 C C)<|Ac<|Ar<|A7 C (λah=>?_)<|λah=>?_
   ·refine Aw (Ah<|Ar<|A5<|Ad<|Gr (A3 (α:=Int) (xs:=nbG nd es (k:Int)) Af ef C C Bi om om)<|Gr (Bx (xs:=nbG nd es (k:Int)) ef C Bi om om)<|Ga C ?_)
    have au:=nb_rng64 hG (x:=(k:Int)) (p:=q) om
    have ar:=M.bd (i:=e_ (nbG nd es (k:Int)) (p:Int)) (j:=e_ (nbG nd es (k:Int)) (q:Int)) om om
    refine Ac<|Ap (S13 9 1 3 5 7 11 12 18 19 20 24 25 26)<|Ad<|Gm C<|Gm C<|Gr (Be C C)<|Ac<|Ap (S14 32 9 1 3 5 7 11 12 18 19 20 24 25 26)<|A7 C (λai=>?_)<|λai=>?_
    ·refine Bs mixed (El 8<|Dr 0 C (Ai C)<|Dr 1 C (Ai C)<|Dr 2 C (Cg Tryz.underlying218 ty193 C C om om)<|Dr 3 C (Cg Tryz.underlying193 ef C C om om)<|Dr 4 C (Runs.getT (xs:=Z) ef C (D8 mm) om om om)<|Dr 5 C (Rad C C)<|Ds1 6<|Sr C (Cg Tryz.underlying218 ty193 C C om om) Ax ?_)
     refine Dr 7 C (Cg Tryz.underlying193 ef C C om om)<|Cs kr ?_
     refine Ae 8 C (Eff.setT (xs:=Z) (i:=e_ (nbG nd es (k:Int)) (p:Int)) (j:=e_ (nbG nd es (k:Int)) (q:Int)) (n:=(e_ Z<|(e_ (nbG nd es (k:Int)) (p:Int))*64+(e_ (nbG nd es (k:Int)) (q:Int)))+1) ef C C C om om om am) ?_
     rintro _ _ ⟨rfl,rfl⟩
     refine Ct kr ?_
     exact Am<|Ah<|Ap (S12 1 3 5 7 11 12 18 19 20 24 25 26)<|Ay<|Gr (Rad C C)<|Gm C<|Bj<|Cb ((q+1),(List.set Z ((e_ (nbG nd es (k:Int)) (p:Int))*64+(e_ (nbG nd es (k:Int)) (q:Int))).toNat ((e_ Z<|(e_ (nbG nd es (k:Int)) (p:Int))*64+(e_ (nbG nd es (k:Int)) (q:Int)))+1)))<|by dsimp only;exact ⟨om,(by first|exact M.yes hG om om asm|exact M.no om om)⟩
    exact Aw<|Am<|Ah<|Ap (S12 1 3 5 7 11 12 18 19 20 24 25 26)<|Ay<|Gr (Rad C C)<|Gm C<|Bj<|Cb ((q+1),(Z))<|by dsimp only;exact ⟨om,(by first|exact M.yes hG om om asm|exact M.no om om)⟩
   exact Bt<|Aq<|Aq<|Bb<|Am<|Ah<|Ay<|Gr (Rad C C)<|Gm C<|Bj<|Cb ((p+1),(Z))<|by dsimp only;exact ⟨om,(TabI.row (by rw [show (nbG nd es (k:Int)).length=q by omega];exact M) om)⟩
  exact Bt<|Aq<|Aq<|Bb<|Am<|Ah<|Ay<|Gr (Rad C C)<|Gm C<|Bj<|Cb ((k+1),(ad))<|by dsimp only;exact ⟨om,(TabI.node<|by rw [show (nbG nd es (k:Int)).length=p by omega];exact ae)⟩
 refine Bt<|Aq<|Aq<|Bb<|Ah<|Ad<|Ga C<|Ac<|Az ?_
 have aj:k=nd.toNat:=by omega
 subst aj
 exact A1 C C (e8 b2 (cells tb) 218::I) Bl ⟨b2,tb,rfl,ht.all hG,rfl⟩
theorem QCounts_ok{nd:Int}{es:List Pt}(hl:Sl κ I va es)(hG:GrOk nd es)(hT:TabRd κ I 0 tzCells):eu Tryz.prog κ 89 [.agg #[e7 nd,va]] I (λr J=>∃a c,r = .tuple #[e7 (quadC nd es),.slice a (quadL nd es).length c]/\J=vk 3 a c (quadL nd es)::I):=by
 have ay:=hG.rng
 refine Ce1 Tryz.func89 C C ?_
 refine Ad<|Ge1 (Bd (cs:=[_,_]) C C C) λb1=>Ga C<|Ga C<|Ac<|Ad<|Gl2 ty38 ?_
 refine G.e (Aj c_ C C<|SharedQ_ok (nd:=nd) (A8 hl) hG<|Bn hT Ax) ?_
 rintro _ _ ⟨_,_,⟨ae,aa,rfl,ah,rfl⟩,rfl,rfl⟩
 refine Ga C<|Ac<|Ar<|Bs mixed<|El 5<|Dr 0 C (Ab fld38_0 C)<|Dr 1 C (A0 ef) ?_
 refine Dr 3 C (Bf C)<|Ds1 2<|Se2 C (E7 (α:=Int) (n:=nd.toNat) Af ef C C C om om dc C) λM ab=>?_
 have a3:(replicate nd.toNat (default:Int)).length=nd.toNat:=length_replicate
 refine Dr 4 C (Bf C)<|Dz<|Ah<|Ar<|Ad<|Gm C<|Gr (Bk Af C)<|Gm C<|Ac<|Ap (S5 16 15 6 5 4)<|A5<|B1 (σ:=Nat×Int×(List Int)) (λs=>([(4,pt ae),(5,e7<|s.2.1),(6,.slice M (replicate nd.toNat (default:Int)).length ab),(15,e7<|(((replicate nd.toNat (default:Int)).length:Nat):Int)),(16,e7 ((s.1:Nat):Int))]:Env)) (λs=>vc 3 (.slice M (replicate nd.toNat (default:Int)).length ab) (s.2.2)::e8 ae (cells (aa:List Int)) 218::e8 b1 [e7 nd,va] 38::I) (λs=>(s.1<=nd.toNat)/\(s.2.1=sumN s.1 (quadW nd es))/\(QdI nd es s.1 0 s.2.2)) (λs=>nd.toNat - s.1) (0,0,replicate nd.toNat (default:Int)) ⟨om,rfl,QdI.zero⟩ (Aa C<|Aa Cd<|cx2<|Aa Cd Bp) Bl ?_
 rintro ⟨k,q,out⟩ hp
 dsimp only at hp ⊢
 obtain ⟨hk,hq,ho⟩:=hp
 have a7:=ho.len
 have a8:=qsum_bd (es:=es) hG.rng.2 k
 refine Ad<|Gr (A9 C C)<|Ac<|Ar<|A7 C (λaw=>?_)<|λaw=>?_
 ·refine Aw (Ah<|Ar<|A5<|Ad<|Gm C<|Ga C<|Ac<|Ar<|Ad<|Gm C<|Gr (Bk Af C)<|Gm C<|Ac<|A5<|B1 (σ:=Nat×(List Int)) (λs=>([(4,pt ae),(5,e7 q),(6,.slice M (replicate nd.toNat (default:Int)).length ab),(7,e7<|(k:Int)),(15,e7<|(((replicate nd.toNat (default:Int)).length:Nat):Int)),(16,e7<|(k:Int)),(20,e7<|(((replicate nd.toNat (default:Int)).length:Nat):Int)),(21,e7 ((s.1:Nat):Int))]:Env)) (λs=>vc 3 (.slice M (replicate nd.toNat (default:Int)).length ab) (s.2)::e8 ae (cells (aa:List Int)) 218::e8 b1 [e7 nd,va] 38::I) (λs=>(s.1<=nd.toNat)/\(QdI nd es k s.1 s.2)) (λs=>nd.toNat - s.1) (0,out) ⟨om,ho⟩ (cx4<|cx2<|Aa C<|Aa Cd Bp) Bl ?_)
  rintro ⟨w,Z⟩ hp
  dsimp only at hp ⊢
  obtain ⟨hw,ad⟩:=hp
  have a0:=ad.len
  have a1:=cK_bd (es:=es) hG.rng.2 k w
  have az:=ad.at om
  refine Ad<|Gr (A9 C C)<|Ac<|Ar<|A7 C (λav=>?_)<|λav=>?_
  ·refine Aw (Ah<|Ar<|A5<|Ad<|Gm C<|Ga C ?_)
   have aj:=ah.val k w om om
   have a5:=ah.len
   have ar:=coN_bd nd.toNat (adjE nd es) k w
   have ax:=prs_bd (n:=coN nd.toNat (adjE nd es) k w) ⟨by omega,by omega⟩
   rw [←aj] at ar ax
   refine Ac<|Bs mixed<|El 14<|Dr 0 C (Ai C)<|Dr 1 C (Ai C)<|Dr 2 C (A3 (α:=Int) (xs:=Z) Af ef C C Bi om om)<|Dr 3 C (Bx (xs:=Z) ef C Bi om om)<|Dr 4 C (Ai C)<|Dr 5 C (Ai C)<|Dr 6 C (Ai C)<|Dr 7 C (Bo C)<|Dr 8 C (Cg Tryz.underlying218 ty193 C C om om)<|Dr 9 C (Cg Tryz.underlying193 ef C C om om)<|Dr 10 C (Runs.getT (xs:=aa) ef C (D8 mm) om om om)<|Ds1 11<|Se C (Aj c_ C C<|Pairs_ok (e_ aa<|(k:Int)*64+(w:Int)) om) ?_
   rintro _ _ ⟨_,_,⟨rfl,rfl⟩,rfl,rfl⟩
   refine ⟨Ax,?_⟩
   refine Dr 12 C (Rad C C)<|Dr 13 C (A3 (α:=Int) (xs:=Z) Af ef C C Bi om om)<|Cs kr ?_
   refine Ae 14 C (C1 (α:=Int) (xs:=Z) (e:=3) (new:=(e_ Z k)+(prs<|e_ aa<|(k:Int)*64+(w:Int))) ef C C C om om am) ?_
   rintro _ _ ⟨rfl,rfl⟩
   refine Ct kr ?_
   exact Am<|Ah<|Ap (S8 4 5 6 7 15 16 20 21)<|Ay<|Gr (Rad C C)<|Gm C<|Bj<|Cb ((w+1),(List.set Z ((k:Int)).toNat ((e_ Z k)+(prs<|e_ aa<|(k:Int)*64+(w:Int)))))<|by dsimp only;exact ⟨om,(by have h8:=ad.step om;rw [←aj] at h8;exact h8)⟩
  refine Bt<|Aq<|Aq<|Bb<|Ah<|Ay<|Gm C<|Gm C<|Gm C<|Gr (A3 (α:=Int) (xs:=Z) Af ef C C Bi om om)<|Gr (Bx (xs:=Z) ef C Bi om om) ?_
  have aq:w=nd.toNat:=by omega
  have ak:QdI nd es k nd.toNat Z:=aq▸ad
  have ao:e_ Z k=quadW nd es k:=ak.at om
  have a4:=quadW_bd (es:=es) hG.rng.2 k
  exact Gr (Rad C C)<|Ga C<|Bj<|Am<|Ah<|Ap (S5 5 4 6 15 16)<|Ay<|Gr (Rad C C)<|Gm C<|Bj<|Cb ((k+1),(q+(e_ Z k)),(Z))<|by dsimp only;exact ⟨om,(by rw [hq,ao];rfl),ak.next⟩
 refine Bt<|Aq<|Aq<|Bb<|Ah<|Ad<|Gm C<|Gr (Runs.quo C C om om<|by unfold InR;omega)<|Gm C<|Ga C<|Ga C<|Ac<|Az ?_
 have an:k=nd.toNat:=by omega
 rw [an] at hq ho
 have ap:=ho.all
 have a6:=quad_sum hG
 have au:q / 4=quadC nd es:=by rw [hq];omega
 have ai:(replicate nd.toNat (default:Int)).length=(quadL nd es).length:=by rw [length_replicate,quadL_len]
 exact C2 C C C (vk 3 M ab (quadL nd es)::I) (by unfold vk;rw [←ai,←ap];exact Bl) ⟨M,ab,by rw [←ai,←au],rfl⟩
theorem nbG_asc(nd:Int)(es:List Pt)(v:Int):(nbG nd es v).Pairwise (λZ M:Int=>Z<M):=by
 unfold nbG
 split
 ·exact List.Pairwise.nil
 exact ofL_asc _
theorem inter_common{nd:Int}{es:List Pt}{u v:Int}(h:u≠v):interF (nbG nd es u) (nbG nd es v)=commonG nd es u v:=by
 unfold commonG
 rw [if_neg h]
 refine intLin.uniq ((nbG_asc nd es u).sublist List.filter_sublist) ?_ λx=>?_
 ·unfold meetL;exact (ofL_asc _).sublist List.filter_sublist
 rw [mem_meetL];unfold interF;rw [List.mem_filter,decide_eq_true_eq]
theorem Shared_any{a0 b0:Option Addr}{n0 Z c0 d0:Nat}{xs ys:List Int}(hn:n0=xs.length)(M:Z=ys.length)(hl:Sl κ I (.slice a0 n0 c0) xs)(hm:Sl κ I (.slice b0 Z d0) ys)(hx:xs.Pairwise (λx0 x1:Int=>x0<x1))(hy:ys.Pairwise (λx0 x1:Int=>x0<x1))(hb:xs.length<=100000):eu Tryz.prog κ 133 [.slice a0 n0 c0,.slice b0 Z d0] I λr J=>∃a c,r = .slice a (interF xs ys).length c/\J=vk 3 a c (interF xs ys)::I:=by
 subst hn M
 exact Shared_ok hl hm hx hy hb
end Go.Sl
