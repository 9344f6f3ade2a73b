/- A part of the proofs of statements of this seat: contracts of functions, and the plain laws that they lean on. No conditions. -/
import Derived.Test.YtfkcohmipjhfcaaGreatDoorB17
set_option linter.unusedVariables false
set_option linter.unusedSimpArgs false
set_option linter.unusedSectionVars false
open Go.Proofs.Tryz (prog)
open List (replicate)
set_option maxHeartbeats 2000000
namespace Go.Sl
open Go.RowKit (Below)
variable{T et r:Nat}{w:World}{x y:Operand}
section
variable {α:Type}[Enc α][DecidableEq α]
def cm1:Nat->List α->List MapEntry
 |_,[]=>[]
 |i,x::xs=>{key:= .agg (Enc.enc x).toArray,val:=e7 (i:Nat),born:=i}::cm1 (i+1) xs
theorem cf2:∀(xs:List α) (i:Nat) (x:α),cm1 i (xs++[x])=cm1 i xs++[{key:= .agg (Enc.enc x).toArray,val:=e7 ((i+xs.length:Nat):Int),born:=i+xs.length}]
 |[],i,x=>by simp [cm1]
 |y::ys,i,x=>by
  have h:=cf2 ys (i+1) x
  rw [show i+1+ys.length=i+(ys.length+1) by omega] at h
  show _::cm1 (i+1) (ys++[x])=_
  rw [h];rfl
def gv2(P:Program)(T:TypeId)(α:Type)[Enc α]:Prop:=∀(x:α) (e:Bool) (w:World),(Instr.checkKey e 10000 T (.agg (Enc.enc x).toArray)).run P w = .ok () w
theorem bo6{P:Program}{T:TypeId}{w:World}(h:EqT P T α)(k:α):∀(xs:List α) (i j:Nat),(Instr.findAsking T (.agg (Enc.enc k).toArray) (cm1 i xs) j).run P w = .ok (if k∈xs then some (j+xs.idxOf k,e7 ((i+xs.idxOf k:Nat):Int)) else none) w
 |[],i,j=>by simp [cm1,Instr.findAsking]
 |x::xs,i,j=>by
  have ih:=bo6 (w:=w) h k xs (i+1) (j+1)
  have E:(Op.equal T (.agg (Enc.enc k).toArray)<|.agg (Enc.enc x).toArray).run P w = .ok (decide<|k=x) w:=h.1 k x w
  unfold cm1 Instr.findAsking
  simp only [Sem.run_bind,E,Result.andThen]
  by_cases hx:k=x
  ·subst hx
   simp
  rw [E_ hx]
  simp only [Mh,Me]
  rw [ih]
  have M:(x==k)=false:=by simpa using λe=>hx e.symm
  by_cases hm:k∈xs
  ·rw [By hm,By<|Fv _ hm,List.idxOf_cons,M]
   simp only [cond_false]
   rw [show j+1+List.idxOf k xs=j+(List.idxOf k xs+1) by omega,show i+1+List.idxOf k xs=i+(List.idxOf k xs+1) by omega]
  rw [An hm,An<|by simp [hx,hm]]
theorem ao9{P:Program}{T:TypeId}{fs:Array Field}(M:P.underlying T=some (.struct fs))(h:EqT P T α)(k:α)(xs:List α):(Instr.findKey T (.agg (Enc.enc k).toArray) (cm1 0 xs)).run P w = .ok (if k∈xs then some (xs.idxOf k,e7 ((xs.idxOf k:Nat):Int)) else none) w:=by
 unfold Instr.findKey
 simp only [Sem.run_bind,run_underlying M,Result.andThen]
 cases xs with
 |nil=>simp [cm1,Instr.findNow]
 |cons x xs=>
  have e:Instr.findNow (.struct fs) (.agg (Enc.enc k).toArray) (cm1 0<|x::xs) 0=none:=by
   simp [cm1,Instr.findNow,Instr.sameNow]
  rw [e]
  have:=bo6 (w:=w) h k (x::xs) 0 0
  simp only [Lz] at this
  exact this
def mpE(r:Nat)(xs:List α):Item:=mp r (cm1 0 xs) xs.length
section
variable {P:Program}{κ:Ctx}{N:Frm}{Q:Exit->Act->World->Prop}{L:Env}{I J:List Item}{ops:Array Oper}{rest:List Oper}
variable {d:Option Tmp}{ty:TypeId}{ps:String}{af:Array Edge}{gd:Option (Nat×Bool)}
theorem Eff.fi5{dd:Nat}(M:Nat.blt dd N.n=true) :
  Eff P κ N Q ⟨some dd,.makeMap T none,ty,ps,af,gd⟩ L I λL' I'=>∃r,L'=(dd,.map<|some r)::L/\I'=mpE (α:=α) r []::I:=Eff.makeMap M
theorem Eff.fv8{z:Operand}{kt:Nat}{fs:Array Field}{xs:List α}{k:α}{v:Value}{I':List Item}(ht:P.underlying T=some (.map kt et))(ad:P.underlying kt=some (.struct fs))(he:EqT P kt α)(hc:gv2 P kt α)(hx:ep L x=some (.map (some r)))
  (hy:ep L y=some (.agg (Enc.enc k).toArray)) (hz:ep L z=some v) (hv:v=e7 ((xs.length:Nat):Int)) (hk:k∉xs) (E:At I (mpE r xs) (mpE r<|xs++[k]) I') :
  Eff P κ N Q ⟨none,.mapUpdate T x y z,ty,ps,af,gd⟩ L I λL' I''=>L'=L/\I''=I':=
 Eff.bv2 rfl λa w ha hs=>by
  have hb:=(hs.ok _ E.mem).1
  have hf:=ao9 (w:=w) ad he k xs
  rw [An hk] at hf
  have M:=cf2 xs 0 k
  simp only [Lz] at M
  refine ⟨{w with heap:=w.heap.setIfInBounds r (.map (cm1 0<|xs++[k]).toArray (xs++[k]).length)},I',?_,⟨rfl,rfl⟩,?_⟩
  ·subst hv
   have aa:(cm1 0 xs).toArray.push {key:= .agg (Enc.enc k).toArray,val:=e7 ((xs.length:Nat):Int),born:=xs.length}=(cm1 0<|xs++[k]).toArray:=by
    rw [M];simp
   have hl:xs.length+1=(xs++[k]).length:=by simp
   simp [execOp,ha.eval hx,ha.eval hy,ha.eval hz,Instr.mapUpdate,run_underlying ht,MapKept.run_getObj_map hb,hc k,hf,MapKept.run_setObj_map _ hb,Result.andThen,M]
  exact hs.upd E rfl ⟨rfl,Gk _⟩ rfl (by simp) (λk _ ab=>(MapKept.heap_set hb).2 k λe=>ab e) (MapKept.heap_set hb).1 λk hk=> .inl hk
theorem j0.dt6{M:Nat}{fs:Array Field}{xs:List α}{k:α}(ht:P.underlying T=some (.map M et))(E:P.underlying M=some (.struct fs))(he:EqT P M α)(hc:gv2 P M α)(hx:ep L x=some (.map (some r)))
  (hy:ep L y=some (.agg (Enc.enc k).toArray)) (hm:mpE r xs∈J) (hk:k∈xs):j0 P κ N ⟨d,.lookup T x y false,ty,ps,af,gd⟩ L J (e7 ((xs.idxOf k:Nat):Int)):=
 λa w ha hs=>by
  have hb:=(hs.ok _ hm).1
  have hf:=ao9 (w:=w) E he k xs
  rw [By hk] at hf
  simp [execOp,ha.eval hx,ha.eval hy,Instr.lookup,run_underlying ht,MapKept.run_getObj_map hb,hc k,hf,Result.andThen]
end
end
end Go.Sl
namespace Go.Sl
open Go.Proofs
set_option maxRecDepth 4000
variable{i nd:Int}{es:List Pt}{va vb:Value}{set sup:List Int}{gone:List Bool}
variable {κ:Ctx}{I:List Item}
attribute [local irreducible] W G V D A j0 Eff
def ar3(nd:Int)(es:List Pt)(e:Pt):List Pt:=(s3 nd es e.u e.v).map λw=>(⟨((es.idxOf (F7 e.u w):Nat):Int),((es.idxOf (F7 e.v w):Nat):Int)⟩:Pt)
def J9(nd:Int)(es:List Pt):List (List Pt):=es.map (ar3 nd es)
theorem ga8:gv2 prog 135 Pt:=λx e w=>by
 cases x;kernel_rfl
theorem ax2(hG:G8 nd es){e:Pt}(he:e∈es){w:Int}(hw:w∈s3 nd es e.u e.v):F7 e.u w∈es/\F7 e.v w∈es:=by
 have M:=hG.ad7 e he
 have hr:=hG.rows
 have ab:e.u≠e.v:=by omega
 have hc:¬p9 nd es≠0:=λh=>h (j6.2 hG)
 have E:∀u:Int,0<=u->u<nd->bm4 nd es u=e_ (ek nd es) u:=λu h0 h1=>by
  have ad:=hG.rows.len
  unfold bm4
  rw [An (by rintro (h|h|h);(· omega);(· omega);(· exact hc h))]
 rw [←bi3 ab,J1,E _ M.1 om,E _ om M.2.2,hr.mem M.1 om,hr.mem om M.2.2] at hw
 have aa:∀a b:Int,((⟨a,b⟩:Pt)∈es\/(⟨b,a⟩:Pt)∈es)->F7 a b∈es:=λa b h=>by
  unfold F7
  rcases h with h|h
  ·have:=hG.ad7 _ h
   simp only at this
   rw [An om,By om];exact h
  have:=hG.ad7 _ h
  simp only at this
  rw [By om,An om];exact h
 exact ⟨aa _ _ hw.1.2,aa _ _ hw.2.2⟩
theorem an5(hG:G8 nd es){e:Pt}(he:e∈es):(s3 nd es e.u e.v).length<=nd.toNat - 1:=by
 have E:=hG.ad7 e he
 have aa:e.u≠e.v:=by omega
 have hc:¬p9 nd es≠0:=λh=>h (j6.2 hG)
 have M:∀u:Int,0<=u->u<nd->bm4 nd es u=e_ (ek nd es) u:=λu h0 h1=>by
  have ab:=hG.rows.len
  unfold bm4
  rw [An (by rintro (h|h|h);(· omega);(· omega);(· exact hc h))]
 rw [←bi3 aa,M _ E.1 om,M _ om E.2.2]
 have hS:=am4 hG
 have hl:=hG.rows.len
 have:=bx5 hS (e_ (ek nd es) e.v) E.1 om
 unfold R6 at this
 omega
theorem cm7(hG:G8 nd es):cq4 (nd.toNat - 1) (J9 nd es):=by
 refine ⟨λl M=>?_,λl M p hp=>?_⟩
 ·obtain ⟨e,E,rfl⟩:=Ha.1 M
  unfold ar3;rw [Gi];exact an5 hG E
 obtain ⟨e,E,rfl⟩:=Ha.1 M
 obtain ⟨w,hw,rfl⟩:=Ha.1 hp
 obtain ⟨h1,h2⟩:=ax2 hG E hw
 have a:=Mz h1
 have b:=Mz h2
 have M:(J9 nd es).length=es.length:=Gi ..
 simp only
 omega
def rgI(rs:List (ah9 Pt)):List Item:=rs.map λr=>vq 64 r.a r.c r.xs
theorem At.rg{I:List Item}{ad:Option Addr}{c:Nat}{xs:List Pt}:∀{rs:List (ah9 Pt)} {i:Int},0<=i->i<rs.length->
  At (rgI rs++I) (vc 64 (.slice (e_ rs i).a (e_ rs i).xs.length (e_ rs i).c) (e_ rs i).xs) (vc 64 (.slice ad xs.length c) xs) (rgI (List.set rs i.toNat ⟨ad,c,xs⟩)++I):=fun {rs} {i} M h=>by
 obtain ⟨k,rfl⟩:∃k:Nat,i=(k:Int):=⟨i.toNat,by omega⟩
 rw [Hu]
 clear M
 induction rs generalizing k with
 |nil=>simp at h;omega
 |cons r rs ih=>
  cases k with
  |zero=>exact At.head _ _ _
  |succ k=>exact At.tail _ (ih k<|by simp at h;omega)
theorem cm9{I:List Item}{rs:List (ah9 Pt)}(M:0<=i)(h:i<rs.length):vq 64 (e_ rs i).a (e_ rs i).c (e_ rs i).xs∈rgI rs++I:=(At.rg (ad:=none) (c:=0) (xs:=[]) M h).mem
theorem Fit.gi6:∀(rs:List (ah9 Pt)),(∀r∈rs,r=default)->Fit κ I (rgI rs++I)
 |[],_=>Di _
 |r::rs,h=>by
  refine Bz (Fit.gi6 rs λx M=>h x<|Fv _ M) ?_
  show Fit κ _ (vq 64 r.a r.c r.xs::_)
  rw [h r C_]
  exact Bb _ _
theorem fg3{rs:List (ah9 Pt)}(E:rs.length=es.length)(h:∀i:Nat,i<es.length->(e_ rs i).xs=ar3 nd es (e_ es i)):rs.map ah9.xs=J9 nd es:=by
 show rs.map ah9.xs=es.map (ar3 nd es)
 refine Ma (by rw [Gi,Gi];exact E) λi M h2=>?_
 rw [Gi] at M
 have:=h i om
 rw [Cj _ _ M,Cj _ _ om] at this
 rw [Kf,Kf];exact this
theorem fh8(h:es.Nodup){k:Nat}(M:k<es.length):e_ es k∉es.take k:=by
 rw [Cj es k M]
 intro E
 obtain ⟨i,hi,e⟩:=Li.1 E
 rw [Fx] at hi
 rw [Lt] at e
 exact (Ho.1 h) i k om M om e
theorem ch2(hl:Sl κ I va es)(hG:G8 nd es)(hb:es.length<=1000000)(hT:P6 κ I 0 F3):er prog κ 276 [.agg #[e7 nd,va]] I (λr J=>∃a c rs,r = .slice a (rs.length) c/\rs.map ah9.xs=J9 nd es/\J=vq 65 a c rs::(rgI rs++I)):=by
 refine Bm hl.le λa3=>?_
 have a0:=hG.rng
 refine Ce1 Tryz.func276 C C ?_
 refine Aj<|Ge1 (Ay (cs:=[_,_]) C C C) λb1=>Ga C<|Aq<|Aj<|Ge1 (Eff.fi5 (α:=Pt) C) λab=>Z ?_
 refine Dl (σ:=Nat) (λs=>[(17,e7 ((s:Nat):Int))]) (λs=>[mpE (α:=Pt) ab (es.take s)]) (λs=>(s<=es.length)) (λs=>es.length - s) 0 (show ((0:Nat)<=es.length) from om) ?_
 rintro k hp
 have hk:=hp
 refine Z ?_
 refine Am C (λav=>Z ?_)<|λav=>Z ?_
 ·refine Ge1 (Ah H3 C) λb3=>Ga C (Ge0 (Ba H3)<|Z ?_)
  refine Ge0 (Eff.fv8 (α:=Pt) (k:=(e_ es k)) Tryz.underlying329 Em cf1 ga8 C C C (by rw [Fx,Nat.min_eq_left om]) (fh8 (au3 hG.asc) om) am)<|Z ?_
  exact Bh ((k+1)) om (hI:=by (try dsimp only);exact (by rw [Cn es k om];exact Ar))
 have az:es.take k=es:=Gb om
 rw [az]
 refine Z ?_
 refine Ge2 (Ca (α:=(ah9 Pt)) (n:=es.length) Tryz.underlying297 gq9 C C C om om dc C) λE aa=>Z ?_
 refine B4 (σ:=Nat×(List<|ah9 Pt)) (λs=>([(1,pt b1),(3,.map<|some ab),(6,.slice E (replicate es.length (default:(ah9 Pt))).length aa),(31,va),(32,e7 ((es.length:Nat):Int)),(33,e7 ((s.1:Nat):Int))]:Env)) (λs=>vc 65 (.slice E (replicate es.length (default:(ah9 Pt))).length aa) (s.2)::mpE (α:=Pt) ab (es)::e8 b1 [e7 nd,va] 48::(rgI s.2++I)) (λs=>(s.1<=es.length)/\(s.2.length=es.length)/\(∀i:Nat,i<s.1->(e_ s.2 i).xs=ar3 nd es (e_ es i))/\(∀i:Nat,s.1<=i->i<es.length->(e_ s.2 i).xs=[])) (λs=>es.length - s.1) (0,replicate es.length (default:ah9 Pt)) ⟨om,Fw,(λi h=>by omega),(λi h1 h2=>by rw [ak4 _ _ _ om om];rfl)⟩ (cx4<|Aa C<|Aa Co A9) (Bz (Fit.gi6 (replicate es.length (default:ah9 Pt))<|λr hr=>Ns hr) Bi) ?_
 rintro ⟨k2,rs⟩ hp
 dsimp only at hp ⊢
 obtain ⟨a7,ad,ak,ao⟩:=hp
 refine Z ?_
 refine Am C (λaw=>Z ?_)<|λaw=>Z ?_
 ·refine Ge1 (Ah H3 C) λb6=>Ga C (Ge0 (Ba H3)<|Z ?_)
  refine Gc2 (Ac c_ C C<|dm5 (nd:=nd) (Bc hl) ((e_ es k2).u) ((e_ es k2).v)<|Cb hT Af) λap ar=>Z ?_
  refine B4 (σ:=Nat×(List<|ah9 Pt)) (λs=>([(1,pt b1),(3,.map<|some ab),(6,.slice E (replicate es.length (default:(ah9 Pt))).length aa),(7,e7 ((k2:Nat):Int)),(8,pt b6),(31,va),(32,e7 ((es.length:Nat):Int)),(33,e7 ((k2:Nat):Int)),(43,.slice ap (s3 nd es ((e_ es ((k2:Nat):Int)).u)<|(e_ es ((k2:Nat):Int)).v).length ar),(44,e7<|(((s3 nd es ((e_ es ((k2:Nat):Int)).u)<|(e_ es ((k2:Nat):Int)).v).length:Nat):Int)),(45,e7 ((s.1:Nat):Int))]:Env)) (λs=>vq 3 ap ar (s3 nd es ((e_ es ((k2:Nat):Int)).u)<|(e_ es ((k2:Nat):Int)).v)::e8 b6 [e7 ((e_ es ((k2:Nat):Int)).u),e7<|(e_ es ((k2:Nat):Int)).v] 135::vc 65 (.slice E (replicate es.length (default:(ah9 Pt))).length aa) (s.2)::mpE (α:=Pt) ab (es)::e8 b1 [e7 nd,va] 48::(rgI s.2++I)) (λs=>(s.1<=(s3 nd es (e_ es ((k2:Nat):Int)).u (e_ es ((k2:Nat):Int)).v).length)/\(s.2.length=es.length)/\(∀i:Nat,i<k2->(e_ s.2 i).xs=ar3 nd es (e_ es i))/\(∀i:Nat,k2<i->i<es.length->(e_ s.2 i).xs=[])/\((e_ s.2 ((k2:Nat):Int)).xs=((s3 nd es (e_ es ((k2:Nat):Int)).u (e_ es ((k2:Nat):Int)).v).take s.1).map (λw=>(⟨((es.idxOf (F7 (e_ es ((k2:Nat):Int)).u w):Nat):Int),((es.idxOf (F7 (e_ es ((k2:Nat):Int)).v w):Nat):Int)⟩:Pt)))) (λs=>(s3 nd es (e_ es ((k2:Nat):Int)).u (e_ es ((k2:Nat):Int)).v).length - s.1) (0,rs) ⟨om,ad,ak,(λi h1 h2=>ao i om h2),(by rw [ao k2 (Gk _) om];simp)⟩ (cx4<|cx4<|cx2<|Aa Co A9) Ar ?_
  rintro ⟨j,M⟩ hp
  dsimp only at hp ⊢
  obtain ⟨hj,ah,an,aq,aj⟩:=hp
  have a5:=an5 hG (e:=(e_ es k2)) (B3 om om)
  have ax:j<(s3 nd es (e_ es k2).u (e_ es k2).v).length->F7 (e_ es k2).u (e_ (s3 nd es (e_ es k2).u (e_ es k2).v) (j:Int))∈es/\F7 (e_ es k2).v (e_ (s3 nd es (e_ es k2).u (e_ es k2).v) (j:Int))∈es:=λh=>ax2 hG (B3 om om) (B3 om om)
  have a1:((e_ M k2).xs).length=j:=by rw [aj,Gi,Fx];omega
  refine Z ?_
  refine Am C (λau=>Z ?_)<|λau=>Z ?_
  ·have hw:=ax om
   refine Z ?_
   refine Gr (j0.dt6 (α:=Pt) (k:=(F7 (e_ es k2).u (e_ (s3 nd es ((e_ es k2).u)<|(e_ es k2).v) (j:Int)))) (xs:=es) Tryz.underlying329 Em cf1 ga8 C C mm hw.1)<|Z ?_
   refine Gr (j0.dt6 (α:=Pt) (k:=(F7 (e_ es k2).v (e_ (s3 nd es ((e_ es k2).u)<|(e_ es k2).v) (j:Int)))) (xs:=es) Tryz.underlying329 Em cf1 ga8 C C mm hw.2)<|Z ?_
   refine Gr (Er (cells:=[_,_]) ar6 B0 ef C C)<|Ge1 (Bt (α:=Pt) (cs:=[_,_]) (xs:=[⟨((List.idxOf (F7 (e_ es k2).u (e_ (s3 nd es ((e_ es k2).u)<|(e_ es k2).v) (j:Int))) es:Nat):Int),((List.idxOf (F7 (e_ es k2).v (e_ (s3 nd es ((e_ es k2).u)<|(e_ es k2).v) (j:Int))) es:Nat):Int)⟩]) Cp ar6 C C dc dc C C C C) λa6=>?_
   refine Ge2 (Bv (α:=Pt) (e:=64) (xs:=(e_ M k2).xs) (ys:=([⟨((List.idxOf (F7 (e_ es k2).u (e_ (s3 nd es ((e_ es k2).u)<|(e_ es k2).v) (j:Int))) es:Nat):Int),((List.idxOf (F7 (e_ es k2).v (e_ (s3 nd es ((e_ es k2).u)<|(e_ es k2).v) (j:Int))) es:Nat):Int)⟩]:List Pt)) Cp ar6 C C C (by repeat (first|exact cm9 (rs:=M) (i:=(k2:Int)) om om|apply Fv)) A6 lcn dc C<|λ_ _=>(by repeat (first|exact At.rg (rs:=M) (i:=(k2:Int)) om om|apply At.tail))) λai ae=>Z ?_
   refine Ge0 (Cr (α:=(ah9 Pt)) (xs:=M) (e:=65) (new:=(⟨ai,ae,((e_ M k2).xs++([⟨((List.idxOf (F7 (e_ es k2).u (e_ (s3 nd es ((e_ es k2).u)<|(e_ es k2).v) (j:Int))) es:Nat):Int),((List.idxOf (F7 (e_ es k2).v (e_ (s3 nd es ((e_ es k2).u)<|(e_ es k2).v) (j:Int))) es:Nat):Int)⟩]:List Pt))⟩:ah9 Pt)) gq9 C C C om om am)<|Z ?_
   exact Bh ((j+1),(List.set M ((k2:Int)).toNat (⟨ai,ae,((e_ M k2).xs++([⟨((List.idxOf (F7 (e_ es k2).u (e_ (s3 nd es ((e_ es k2).u)<|(e_ es k2).v) (j:Int))) es:Nat):Int),((List.idxOf (F7 (e_ es k2).v (e_ (s3 nd es ((e_ es k2).u)<|(e_ es k2).v) (j:Int))) es:Nat):Int)⟩]:List Pt))⟩:ah9 Pt)))<|by dsimp only;exact ⟨om,(by rw [Gd];exact ah),(λi h=>by rw [Dq _ _ _ _ om om om,An om];exact an i h),(λi h1 h2=>by rw [Dq _ _ _ _ om om om,An om];exact aq i h1 h2),(by rw [Dq _ _ _ _ om om om,By rfl,Cn _ j om,Jb];show (e_ M k2).xs++_=_;rw [aj];rfl)⟩
  exact Bh ((k2+1),(M))<|by dsimp only;exact ⟨om,ah,(λi h=>by by_cases e:i=k2;(· subst e;rw [aj,Gb om];rfl);(· exact an i om)),(λi h1 h2=>aq i om h2)⟩
 have a4:k2=es.length:=by omega
 have ay:=fg3 ad (λi h=>ak i om)
 exact Ak C C (vq 65 E aa rs::(rgI rs++I)) (by unfold vq;rw [ad];simp only [Fw];exact Bi) ⟨E,aa,rs,by rw [ad];simp only [Fw],ay,rfl⟩
theorem r8{i:Nat}(h:e_ gone i=false)(M:J6 sup gone i<0\/e_ sup i<e_ sup (J6 sup gone i)):J6 sup gone (i+1)=(i:Int):=by
 conv=>lhs;unfold J6
 rw [By ⟨h,M⟩]
theorem s8{i:Nat}(h:e_ gone i=true\/(¬J6 sup gone i<0/\¬e_ sup i<e_ sup (J6 sup gone i))):J6 sup gone (i+1)=J6 sup gone i:=by
 conv=>lhs;unfold J6
 rw [An]
 rintro ⟨M,E⟩
 rcases h with h|h
 ·rw [h] at M;cases M
 exact E.elim h.1 h.2
theorem bu3{rs:List (ah9 Pt)}{tri:List (List Pt)}(h:rs.map ah9.xs=tri)(E:0<=i)(M:i<rs.length):(e_ rs i).xs=e_ tri i:=by
 subst h
 rw [ax3 E M,ax3 E<|by rw [Gi];exact M,Kf]
theorem aw0{p:Pt}(E:e_ gone p.u=false)(M:e_ gone p.v=false):bg6 gone sup p=(sup.set p.u.toNat (e_ sup p.u - 1)).set p.v.toNat (e_ (sup.set p.u.toNat (e_ sup p.u - 1)) p.v - 1):=by
 unfold bg6;rw [By ⟨E,M⟩]
theorem bp1{p:Pt}(h:e_ gone p.u=true\/e_ gone p.v=true):bg6 gone sup p=sup:=by
 unfold bg6;rw [An]
 rintro ⟨E,M⟩
 rcases h with h|h
 ·rw [h] at E;cases E
 rw [h] at M;cases M
theorem fp2{κ:Ctx}{I:List Item}{nd:Int}{va:Value}{es:List Pt}(hl:Sl κ I va es)(hG:G8 nd es)(hb:es.length<=1000000)(hT:P6 κ I 0 F3):er prog κ 222 [.agg #[e7 nd,va]] I (λr J=>∃a c a' c',r = .tuple #[.slice a (U0 (J9 nd es)).length c,.slice a' (bd4 (J9 nd es)).length c']/\J=vc 3 (.slice a (U0 (J9 nd es)).length c) (U0 (J9 nd es))::vc 3 (.slice a' (bd4 (J9 nd es)).length c') (bd4 (J9 nd es))::I):=by
 have bv:=hG.rng
 have ax:=cm7 hG
 have bw:(J9 nd es).length=es.length:=Gi ..
 refine Ce1 Tryz.func222 C C ?_
 refine Aj<|Ge1 (Ay (cs:=[_,_]) C C C) λb1=>Z ?_
 refine G.e (Ac c_ C C<|ch2 (nd:=nd) (Bc hl) hG om<|Cb hT Af) ?_
 rintro _ _ ⟨_,_,⟨ap,an,M,rfl,ay,rfl⟩,rfl,rfl⟩
 have a6:M.length=(J9 nd es).length:=by rw [←ay,Gi]
 refine Fo (J:=vc 65 (.slice ap M.length an) (M)::e8 b1 [e7 nd,va] 48::(rgI M++I)) (Fit.perm<|List.Perm.cons _<|bf7 (A:=rgI M) (L:=[e8 b1 [e7 nd,va] 48]) (T:=I))<|Z ?_
 refine Ge2 (Ca (α:=Int) (n:=M.length) Ab ef C C C om om dc C) λav aw=>Z ?_
 refine B4 (σ:=Nat×(List Int)) (λs=>([(2,.slice none 0 0),(4,.slice ap M.length an),(5,e7 ((M.length:Nat):Int)),(6,.slice av (replicate M.length (default:Int)).length aw),(21,.slice ap M.length an),(22,e7 ((M.length:Nat):Int)),(23,e7 ((s.1:Nat):Int))]:Env)) (λs=>vc 3 (.slice av (replicate M.length (default:Int)).length aw) (s.2)::vc 65 (.slice ap M.length an) (M)::e8 b1 [e7 nd,va] 48::(rgI M++I)) (λs=>(s.1<=M.length)/\(s.2.length=M.length)/\(∀i:Nat,i<s.1->e_ s.2 i=(((e_ M i).xs.length:Nat):Int))) (λs=>M.length - s.1) (0,replicate M.length (default:Int)) ⟨om,Fw,(λi h=>by omega)⟩ (Aa C<|Aa C<|Aa C<|Aa C<|Aa C<|Aa C<|Aa (Do C<|by first|omega|rfl|((try dsimp only);first|exact r8 (by simpa using E) (by first|exact .inl aa|exact .inr ab)|exact (r8 (by simpa using E)<|by first|exact .inl aa|exact .inr ab).symm|exact s8 (by first|(left;simpa using E)|exact .inr ⟨aa,ab⟩)|exact (s8<|by first|(left;simpa using E)|exact .inr ⟨aa,ab⟩).symm)) A9) Ar ?_
 rintro ⟨k,sup⟩ hp
 dsimp only at hp ⊢
 obtain ⟨hk,be,bk⟩:=hp
 refine Z ?_
 refine Am C (λbu=>Z ?_)<|λbu=>Z ?_
 ·refine Ge0 (Cr (α:=Int) (xs:=sup) (e:=3) (new:=(((e_ M k).xs.length:Nat):Int)) ef C C C om oo am) (Z ?_)
  exact Bh ((k+1),(List.set sup ((k:Int)).toNat ((((e_ M k).xs.length:Nat):Int)))) (by dsimp only;exact ⟨om,(by rw [Gd];exact be),(λi h=>by rw [Dq _ _ _ _ om om om];by_cases e:i=k;(· subst e;rw [By rfl]);(· rw [An om];exact bk i om))⟩) (hL:=(Aa C<|Aa C<|Aa C<|Aa C<|Aa C<|Aa C<|Aa (Do C<|by first|omega|rfl|((try dsimp only);first|exact r8 (by simpa using E) (by first|exact .inl aa|exact .inr ab)|exact (r8 (by simpa using E)<|by first|exact .inl aa|exact .inr ab).symm|exact s8 (by first|(left;simpa using E)|exact .inr ⟨aa,ab⟩)|exact (s8<|by first|(left;simpa using E)|exact .inr ⟨aa,ab⟩).symm)) A9))
 have bc:sup=(ah0<|J9 nd es).sup:=by refine gk4 (by rw [be,a6];exact (Gi ..).symm) (λi hi=>?_);rw [bk i om,bu3 ay om om];show _=e_ ((J9 nd es).map λl=>(l.length:Int)) (i:Int);rw [Cj _ _ (show i<(J9 nd es).length by omega),Cj _ _<|by rw [Gi];omega,Kf]
 refine Ge2 (Ca (α:=Bool) (n:=M.length) Bk ty4 C C C om om dc C) λaz a1=>Z ?_
 refine Ge2 (Ca (α:=Int) (n:=M.length) Ab ef C C C om om dc C) λar aj=>Z ?_
 refine B4 (σ:=Nat×TrS×(Option Addr)×Nat) (λs=>([(2,.slice s.2.2.1 s.2.1.ord.length s.2.2.2),(3,.slice ar (replicate M.length (default:Int)).length aj),(4,.slice ap M.length an),(5,e7 ((M.length:Nat):Int)),(6,.slice av (replicate M.length (default:Int)).length aw),(9,.slice az (replicate M.length (default:Bool)).length a1),(10,e7<|s.2.1.k),(38,e7 ((M.length:Nat):Int)),(39,e7 ((s.1:Nat):Int))]:Env)) (λs=>vc 3 (.slice s.2.2.1 s.2.1.ord.length s.2.2.2) (s.2.1.ord)::vc 3 (.slice ar (replicate M.length (default:Int)).length aj) (s.2.1.num)::vc 4 (.slice az (replicate M.length (default:Bool)).length a1) (s.2.1.gone)::vc 3 (.slice av (replicate M.length (default:Int)).length aw) (s.2.1.sup)::vc 65 (.slice ap M.length an) (M)::e8 b1 [e7 nd,va] 48::(rgI M++I)) (λs=>(s.1<=M.length)/\(s.2.1=az6 (J9 nd es) s.1)/\(di7 (nd.toNat - 1) (J9 nd es).length s.1 s.2.1)) (λs=>M.length - s.1) (0,(ah0<|J9 nd es),none,0) ⟨om,rfl,(di7.start ax)⟩ (Aa (Da C<|by first|rfl|simp)<|Aa C<|Aa C<|Aa C<|Aa C<|Aa C<|Aa (Do C<|by first|omega|rfl|((try dsimp only);first|exact r8 (by simpa using E) (by first|exact .inl aa|exact .inr ab)|exact (r8 (by simpa using E)<|by first|exact .inl aa|exact .inr ab).symm|exact s8 (by first|(left;simpa using E)|exact .inr ⟨aa,ab⟩)|exact (s8<|by first|(left;simpa using E)|exact .inr ⟨aa,ab⟩).symm))<|Aa C<|Aa (Do C<|by first|omega|rfl|((try dsimp only);first|exact r8 (by simpa using E) (by first|exact .inl aa|exact .inr ab)|exact (r8 (by simpa using E)<|by first|exact .inl aa|exact .inr ab).symm|exact s8 (by first|(left;simpa using E)|exact .inr ⟨aa,ab⟩)|exact (s8<|by first|(left;simpa using E)|exact .inr ⟨aa,ab⟩).symm)) A9) (by rw [←bc];exact Bz (Bb (α:=Int) _ _)<|by rw [a6];exact Bi) ?_
 rintro ⟨j,tr,ao,co⟩ hp
 dsimp only at hp ⊢
 obtain ⟨hj,bg,ak⟩:=hp
 have bq:=ak.gp5
 have bt:=ak.fz6
 have b6:=ak.cn5
 have ca:=ak.gi4
 have cc:=ak.k
 have b9:2*(((nd.toNat - 1:Nat)):Int)*(j:Int)<=126*(j:Int):=Kn om om
 refine Z ?_
 refine Am C (λbp=>Z ?_)<|λbp=>Z ?_
 ·refine B4 (σ:=Nat) (λs=>([(2,.slice ao tr.ord.length co),(3,.slice ar (replicate M.length (default:Int)).length aj),(4,.slice ap M.length an),(5,e7 ((M.length:Nat):Int)),(6,.slice av (replicate M.length (default:Int)).length aw),(9,.slice az (replicate M.length (default:Bool)).length a1),(10,e7<|tr.k),(11,e7<|J6 tr.sup tr.gone s),(38,e7 ((M.length:Nat):Int)),(39,e7<|(j:Int)),(41,e7 ((M.length:Nat):Int)),(42,e7 ((s:Nat):Int))]:Env)) (λs=>vc 3 (.slice ao tr.ord.length co) (tr.ord)::vc 3 (.slice ar (replicate M.length (default:Int)).length aj) (tr.num)::vc 4 (.slice az (replicate M.length (default:Bool)).length a1) (tr.gone)::vc 3 (.slice av (replicate M.length (default:Int)).length aw) (tr.sup)::vc 65 (.slice ap M.length an) (M)::e8 b1 [e7 nd,va] 48::(rgI M++I)) (λs=>(s<=M.length)) (λs=>M.length - s) 0 (show ((0:Nat)<=M.length) from om) (Aa C<|Aa C<|Aa C<|Aa C<|Aa C<|Aa C<|Aa C<|Aa (Do C<|by first|omega|rfl|((try dsimp only);first|exact r8 (by simpa using E) (by first|exact .inl aa|exact .inr ab)|exact (r8 (by simpa using E)<|by first|exact .inl aa|exact .inr ab).symm|exact s8 (by first|(left;simpa using E)|exact .inr ⟨aa,ab⟩)|exact (s8<|by first|(left;simpa using E)|exact .inr ⟨aa,ab⟩).symm))<|Aa C<|Aa C<|Aa C<|Aa (Do C<|by first|omega|rfl|((try dsimp only);first|exact r8 (by simpa using E) (by first|exact .inl aa|exact .inr ab)|exact (r8 (by simpa using E)<|by first|exact .inl aa|exact .inr ab).symm|exact s8 (by first|(left;simpa using E)|exact .inr ⟨aa,ab⟩)|exact (s8<|by first|(left;simpa using E)|exact .inr ⟨aa,ab⟩).symm)) A9) Ar ?_
  rintro i2 hp
  have bz:=hp
  have b5:=by5 tr.sup tr.gone i2
  refine Z ?_
  refine Am C (λbo=>Z ?_)<|λbo=>Z ?_
  ·refine A8 mixed (C1 20<|Z ?_)
   refine D.bn8 (d:=50) C (λE=>?_)<|λE=>?_
   ·refine Z ?_
    refine Cw (d:=53) C (λaa=>Z ?_)<|λaa=>?_
    ·exact Bh ((i2+1)) om (hL:=(Aa C<|Aa C<|Aa C<|Aa C<|Aa C<|Aa C<|Aa C<|Aa (Do C<|by first|omega|rfl|((try dsimp only);first|exact r8 (by simpa using E) (by first|exact .inl aa|exact .inr ab)|exact (r8 (by simpa using E)<|by first|exact .inl aa|exact .inr ab).symm|exact s8 (by first|(left;simpa using E)|exact .inr ⟨aa,ab⟩)|exact (s8<|by first|(left;simpa using E)|exact .inr ⟨aa,ab⟩).symm))<|Aa C<|Aa C<|Aa C<|Aa (Do C<|by first|omega|rfl|((try dsimp only);first|exact r8 (by simpa using E) (by first|exact .inl aa|exact .inr ab)|exact (r8 (by simpa using E)<|by first|exact .inl aa|exact .inr ab).symm|exact s8 (by first|(left;simpa using E)|exact .inr ⟨aa,ab⟩)|exact (s8<|by first|(left;simpa using E)|exact .inr ⟨aa,ab⟩).symm)) A9))
    refine Dro 9 C (Ad C)<|Z ?_
    refine Am C (λab=>Z ?_)<|λab=>Z ?_
    ·exact Bh ((i2+1)) om (hL:=(Aa C<|Aa C<|Aa C<|Aa C<|Aa C<|Aa C<|Aa C<|Aa (Do C<|by first|omega|rfl|((try dsimp only);first|exact r8 (by simpa using E) (by first|exact .inl aa|exact .inr ab)|exact (r8 (by simpa using E)<|by first|exact .inl aa|exact .inr ab).symm|exact s8 (by first|(left;simpa using E)|exact .inr ⟨aa,ab⟩)|exact (s8<|by first|(left;simpa using E)|exact .inr ⟨aa,ab⟩).symm))<|Aa C<|Aa C<|Aa C<|Aa (Do C<|by first|omega|rfl|((try dsimp only);first|exact r8 (by simpa using E) (by first|exact .inl aa|exact .inr ab)|exact (r8 (by simpa using E)<|by first|exact .inl aa|exact .inr ab).symm|exact s8 (by first|(left;simpa using E)|exact .inr ⟨aa,ab⟩)|exact (s8<|by first|(left;simpa using E)|exact .inr ⟨aa,ab⟩).symm)) A9))
    exact Bh ((i2+1)) om (hL:=(Aa C<|Aa C<|Aa C<|Aa C<|Aa C<|Aa C<|Aa C<|Aa (Do C<|by first|omega|rfl|((try dsimp only);first|exact r8 (by simpa using E) (by first|exact .inl aa|exact .inr ab)|exact (r8 (by simpa using E)<|by first|exact .inl aa|exact .inr ab).symm|exact s8 (by first|(left;simpa using E)|exact .inr ⟨aa,ab⟩)|exact (s8<|by first|(left;simpa using E)|exact .inr ⟨aa,ab⟩).symm))<|Aa C<|Aa C<|Aa C<|Aa (Do C<|by first|omega|rfl|((try dsimp only);first|exact r8 (by simpa using E) (by first|exact .inl aa|exact .inr ab)|exact (r8 (by simpa using E)<|by first|exact .inl aa|exact .inr ab).symm|exact s8 (by first|(left;simpa using E)|exact .inr ⟨aa,ab⟩)|exact (s8<|by first|(left;simpa using E)|exact .inr ⟨aa,ab⟩).symm)) A9))
   refine Dpo 6 C<|Z ?_
   exact Bh ((i2+1)) om (hL:=(Aa C<|Aa C<|Aa C<|Aa C<|Aa C<|Aa C<|Aa C<|Aa (Do C<|by first|omega|rfl|((try dsimp only);first|exact r8 (by simpa using E) (by first|exact .inl aa|exact .inr ab)|exact (r8 (by simpa using E)<|by first|exact .inl aa|exact .inr ab).symm|exact s8 (by first|(left;simpa using E)|exact .inr ⟨aa,ab⟩)|exact (s8<|by first|(left;simpa using E)|exact .inr ⟨aa,ab⟩).symm))<|Aa C<|Aa C<|Aa C<|Aa (Do C<|by first|omega|rfl|((try dsimp only);first|exact r8 (by simpa using E) (by first|exact .inl aa|exact .inr ab)|exact (r8 (by simpa using E)<|by first|exact .inl aa|exact .inr ab).symm|exact s8 (by first|(left;simpa using E)|exact .inr ⟨aa,ab⟩)|exact (s8<|by first|(left;simpa using E)|exact .inr ⟨aa,ab⟩).symm)) A9))
  obtain ⟨b,bf⟩:∃b,J6 tr.sup tr.gone i2=b:=⟨_,rfl⟩
  have bj:J6 tr.sup tr.gone (J9 nd es).length=b:=by rw [←bf,show i2=(J9 nd es).length by omega]
  have a0:=ak.gb0 om
  rw [bj] at a0
  rw [bf]
  have b2:=ak.sup _ (B3 (xs:=tr.sup) (i:=b) a0.1 om)
  refine Z ?_
  have bm:(if tr.k<(e_ tr.sup b) then (e_ tr.sup b) else tr.k)=(max tr.k<|e_ tr.sup b):=by split<;>omega
  rw [bm]
  refine Z ?_
  refine Ge0 (Cr (α:=Int) (xs:=tr.num) (e:=3) (new:=(max tr.k<|e_ tr.sup b)) ef C C C om oo am)<|Z ?_
  refine Ge0 (Cr (α:=Bool) (xs:=tr.gone) (e:=4) (new:=true) ty4 C C C om oo am)<|Z ?_
  refine Ge1 (Bt (α:=Int) (cs:=[_]) (xs:=[b]) Ab ef C C dc dc C C C C) λbb=>?_
  refine Ge2 (Bv (α:=Int) (e:=3) (xs:=tr.ord) (ys:=([b]:List Int)) Ab ef C C C mm A6 lcn dc C<|λ_ _=>am) λa4 a3=>Z ?_
  refine B4 (σ:=Nat×(List Int)) (λs=>([(2,.slice a4 (tr.ord++([b]:List Int)).length a3),(3,.slice ar (replicate M.length (default:Int)).length aj),(4,.slice ap M.length an),(5,e7 ((M.length:Nat):Int)),(6,.slice av (replicate M.length (default:Int)).length aw),(9,.slice az (replicate M.length (default:Bool)).length a1),(10,e7<|(max tr.k<|e_ tr.sup b)),(38,e7 ((M.length:Nat):Int)),(39,e7 ((j:Nat):Int)),(87,.slice (e_ M b).a (e_ M b).xs.length (e_ M b).c),(88,e7<|(((e_ M b).xs.length:Nat):Int)),(89,e7 ((s.1:Nat):Int))]:Env)) (λs=>vc 3 (.slice bb 1 1) (([b]:List Int))::vc 3 (.slice a4 (tr.ord++([b]:List Int)).length a3) (tr.ord++([b]:List Int))::vc 3 (.slice ar (replicate M.length (default:Int)).length aj) (List.set tr.num (b).toNat ((max tr.k<|e_ tr.sup b)))::vc 4 (.slice az (replicate M.length (default:Bool)).length a1) (List.set tr.gone (b).toNat (true))::vc 3 (.slice av (replicate M.length (default:Int)).length aw) (s.2)::vc 65 (.slice ap M.length an) (M)::e8 b1 [e7 nd,va] 48::(rgI M++I)) (λs=>(s.1<=(e_ M b).xs.length)/\(s.2=((e_ M b).xs.take s.1).foldl (bg6<|List.set tr.gone (b).toNat (true)) tr.sup)/\(s.2.length=(J9 nd es).length)/\(∀x∈s.2, -(126*((j:Nat):Int)) - 2*((s.1:Nat):Int)<=x/\x<=64)) (λs=>(e_ M b).xs.length - s.1) (0,tr.sup) ⟨om,rfl,bq,(λx hx=>by have:=ak.sup x hx;omega)⟩ (Aa C<|Aa C<|Aa C<|Aa C<|Aa C<|Aa C<|Aa C<|Aa C<|Aa C<|Aa C<|Aa C<|Aa (Do C<|by first|omega|rfl|((try dsimp only);first|exact r8 (by simpa using E) (by first|exact .inl aa|exact .inr ab)|exact (r8 (by simpa using E)<|by first|exact .inl aa|exact .inr ab).symm|exact s8 (by first|(left;simpa using E)|exact .inr ⟨aa,ab⟩)|exact (s8<|by first|(left;simpa using E)|exact .inr ⟨aa,ab⟩).symm)) A9) Ar ?_
  rintro ⟨q,ad⟩ hp
  dsimp only at hp ⊢
  obtain ⟨hq,a7,aq,a5⟩:=hp
  have ba:(e_ M b).xs∈(J9 nd es):=by rw [bu3 ay a0.1 om];exact B3 a0.1 a0.2.1
  have b7:=ax.len _ ba
  have bx:(List.set tr.gone (b).toNat (true)).length=(J9 nd es).length:=by rw [Gd];exact bt
  have a8:q<(e_ M b).xs.length->0<=(e_ (e_ M b).xs (q:Int)).u/\(e_ (e_ M b).xs (q:Int)).u<(J9 nd es).length/\0<=(e_ (e_ M b).xs (q:Int)).v/\(e_ (e_ M b).xs (q:Int)).v<(J9 nd es).length:=λh=>ax.rng _ ba _ (B3 om om)
  refine Z ?_
  refine Am C (λbn=>Z ?_)<|λbn=>Z ?_
  ·refine Gr (A2 (α:=Pt) (xs:=(e_ M b).xs) Cp ar6 C C (Ed<|by repeat (first|exact cm9 (rs:=M) (i:=b) om om|apply Fv)) om oo) (Gr (Cd (α:=Pt) (xs:=(e_ M b).xs) ar6 C (Ed<|by repeat (first|exact cm9 (rs:=M) (i:=b) om om|apply Fv)) om oo) ?_)
   have cb:=a8 om
   have b3:=a5 _ (B3 (xs:=ad) (i:=(e_ (e_ M b).xs (q:Int)).u) om om)
   refine Ge1 (Ah ar6 C) λb8=>Ge0 (Ba ar6)<|Z ?_
   refine Gr (Cc B0 ty2 C C om om)<|Z ?_
   refine G.bn8 (d:=99) C (λai=>?_)<|λai=>Z ?_
   ·refine e9 (Ad C) (e9 (Cc B0 ty2 C C om om)<|Z ?_)
    refine D8 C (λae=>?_)<|λae=>Z ?_
    ·refine Aj (Gm C<|Gr (Cc B0 ty2 C C om om)<|Z ?_)
     refine Ge0 (Cr (α:=Int) (xs:=ad) (e:=3) (new:=(e_ ad<|(e_ ((e_ M b).xs) (q:Int)).u) - 1) ef C C C om oo am) ?_
     have b4 : -(126*(j:Int)) - 2*(q:Int) - 1<=e_ (List.set ad ((e_ ((e_ M b).xs) (q:Int)).u).toNat ((e_ ad<|(e_ ((e_ M b).xs) (q:Int)).u) - 1)) (e_ (e_ M b).xs (q:Int)).v/\e_ (List.set ad ((e_ ((e_ M b).xs) (q:Int)).u).toNat ((e_ ad<|(e_ ((e_ M b).xs) (q:Int)).u) - 1)) (e_ (e_ M b).xs (q:Int)).v<=64:=by rw [Dq _ _ _ _ om om om];have:=a5 _ (B3 (xs:=ad) (i:=(e_ (e_ M b).xs (q:Int)).v) om om);split<;>omega
     refine Z ?_
     refine Gr (Cc B0 ty2 C C om om)<|Z ?_
     refine Ge0 (Cr (α:=Int) (xs:=List.set ad ((e_ ((e_ M b).xs) (q:Int)).u).toNat ((e_ ad<|(e_ ((e_ M b).xs) (q:Int)).u) - 1)) (e:=3) (new:=(e_ (List.set ad ((e_ ((e_ M b).xs) (q:Int)).u).toNat ((e_ ad<|(e_ ((e_ M b).xs) (q:Int)).u) - 1))<|(e_ ((e_ M b).xs) (q:Int)).v) - 1) ef C C C om oo am)<|Z ?_
     have au:((e_ M b).xs.take (q+1)).foldl (bg6<|List.set tr.gone (b).toNat (true)) tr.sup=bg6 (List.set tr.gone (b).toNat (true)) ad (e_ (e_ M b).xs (q:Int)):=by rw [Cn _ q om,Hw,←a7];rfl
     have ah:=bb1 (gone:=(List.set tr.gone (b).toNat (true))) (p:=(e_ (e_ M b).xs (q:Int))) (by have:=a8 om;omega) a5
     have bi:=as5 (List.set tr.gone (b).toNat (true)) ad (e_ (e_ M b).xs (q:Int))
     exact Bh ((q+1),(List.set (List.set ad ((e_ ((e_ M b).xs) (q:Int)).u).toNat ((e_ ad<|(e_ ((e_ M b).xs) (q:Int)).u) - 1)) ((e_ ((e_ M b).xs) (q:Int)).v).toNat ((e_ (List.set ad ((e_ ((e_ M b).xs) (q:Int)).u).toNat ((e_ ad<|(e_ ((e_ M b).xs) (q:Int)).u) - 1))<|(e_ ((e_ M b).xs) (q:Int)).v) - 1))) (by dsimp only;exact ⟨om,(by rw [au];first|exact (aw0 (by simpa using ai)<|by simpa using ae).symm|exact (bp1<|by first|(left;simpa using ai)|(right;simpa using ae)).symm),(by first|exact aq|(simp only [Gd];exact aq)),(by first|(rw [aw0 (by simpa using ai) (by simpa using ae)] at ah;exact λx hx=>by have:=ah x hx;push_cast;omega)|(rw [bp1 (by first|(left;simpa using ai)|(right;simpa using ae))] at ah;exact λx hx=>by have:=ah x hx;push_cast;omega))⟩) (hL:=(Aa C<|Aa C<|Aa C<|Aa C<|Aa C<|Aa C<|Aa C<|Aa C<|Aa C<|Aa C<|Aa C<|Aa (Do C<|by first|omega|rfl|((try dsimp only);first|exact r8 (by simpa using E) (by first|exact .inl aa|exact .inr ab)|exact (r8 (by simpa using E)<|by first|exact .inl aa|exact .inr ab).symm|exact s8 (by first|(left;simpa using E)|exact .inr ⟨aa,ab⟩)|exact (s8<|by first|(left;simpa using E)|exact .inr ⟨aa,ab⟩).symm)) A9))
    have au:((e_ M b).xs.take (q+1)).foldl (bg6<|List.set tr.gone (b).toNat (true)) tr.sup=bg6 (List.set tr.gone (b).toNat (true)) ad (e_ (e_ M b).xs (q:Int)):=by rw [Cn _ q om,Hw,←a7];rfl
    have ah:=bb1 (gone:=(List.set tr.gone (b).toNat (true))) (p:=(e_ (e_ M b).xs (q:Int))) (by have:=a8 om;omega) a5
    have bi:=as5 (List.set tr.gone (b).toNat (true)) ad (e_ (e_ M b).xs (q:Int))
    exact Bh ((q+1),(ad)) (by dsimp only;exact ⟨om,(by rw [au];first|exact (aw0 (by simpa using ai)<|by simpa using ae).symm|exact (bp1<|by first|(left;simpa using ai)|(right;simpa using ae)).symm),(by first|exact aq|(simp only [Gd];exact aq)),(by first|(rw [aw0 (by simpa using ai) (by simpa using ae)] at ah;exact λx hx=>by have:=ah x hx;push_cast;omega)|(rw [bp1 (by first|(left;simpa using ai)|(right;simpa using ae))] at ah;exact λx hx=>by have:=ah x hx;push_cast;omega))⟩) (hL:=(Aa C<|Aa C<|Aa C<|Aa C<|Aa C<|Aa C<|Aa C<|Aa C<|Aa C<|Aa C<|Aa C<|Aa (Do C<|by first|omega|rfl|((try dsimp only);first|exact r8 (by simpa using E) (by first|exact .inl aa|exact .inr ab)|exact (r8 (by simpa using E)<|by first|exact .inl aa|exact .inr ab).symm|exact s8 (by first|(left;simpa using E)|exact .inr ⟨aa,ab⟩)|exact (s8<|by first|(left;simpa using E)|exact .inr ⟨aa,ab⟩).symm)) A9))
   have au:((e_ M b).xs.take (q+1)).foldl (bg6<|List.set tr.gone (b).toNat (true)) tr.sup=bg6 (List.set tr.gone (b).toNat (true)) ad (e_ (e_ M b).xs (q:Int)):=by rw [Cn _ q om,Hw,←a7];rfl
   have ah:=bb1 (gone:=(List.set tr.gone (b).toNat (true))) (p:=(e_ (e_ M b).xs (q:Int))) (by have:=a8 om;omega) a5
   have bi:=as5 (List.set tr.gone (b).toNat (true)) ad (e_ (e_ M b).xs (q:Int))
   exact Bh ((q+1),(ad)) (by dsimp only;exact ⟨om,(by rw [au];first|exact (aw0 (by simpa using ai)<|by simpa using ae).symm|exact (bp1<|by first|(left;simpa using ai)|(right;simpa using ae)).symm),(by first|exact aq|(simp only [Gd];exact aq)),(by first|(rw [aw0 (by simpa using ai) (by simpa using ae)] at ah;exact λx hx=>by have:=ah x hx;push_cast;omega)|(rw [bp1 (by first|(left;simpa using ai)|(right;simpa using ae))] at ah;exact λx hx=>by have:=ah x hx;push_cast;omega))⟩) (hL:=(Aa C<|Aa C<|Aa C<|Aa C<|Aa C<|Aa C<|Aa C<|Aa C<|Aa C<|Aa C<|Aa C<|Aa (Do C<|by first|omega|rfl|((try dsimp only);first|exact r8 (by simpa using E) (by first|exact .inl aa|exact .inr ab)|exact (r8 (by simpa using E)<|by first|exact .inl aa|exact .inr ab).symm|exact s8 (by first|(left;simpa using E)|exact .inr ⟨aa,ab⟩)|exact (s8<|by first|(left;simpa using E)|exact .inr ⟨aa,ab⟩).symm)) A9))
  have a9:(TrS.mk ad (List.set tr.gone (b).toNat (true)) (List.set tr.num (b).toNat (max tr.k<|e_ tr.sup b)) (tr.ord++[b])<|max tr.k<|e_ tr.sup b)=ar8 (J9 nd es) tr:=by unfold ar8;rw [bj,a7,Gb om,bu3 ay a0.1 om]
  exact Bh ((j+1),((TrS.mk ad (List.set tr.gone (b).toNat (true)) (List.set tr.num (b).toNat (max tr.k<|e_ tr.sup b)) (tr.ord++[b])<|max tr.k<|e_ tr.sup b)),(a4),(a3)) (by dsimp only;exact ⟨om,(by rw [a9,bg];rfl),(by rw [a9];exact ak.step ax om)⟩) (hL:=(Aa (Da C<|by first|rfl|simp)<|Aa C<|Aa C<|Aa C<|Aa C<|Aa C<|Aa (Do C<|by first|omega|rfl|((try dsimp only);first|exact r8 (by simpa using E) (by first|exact .inl aa|exact .inr ab)|exact (r8 (by simpa using E)<|by first|exact .inl aa|exact .inr ab).symm|exact s8 (by first|(left;simpa using E)|exact .inr ⟨aa,ab⟩)|exact (s8<|by first|(left;simpa using E)|exact .inr ⟨aa,ab⟩).symm))<|Aa C<|Aa (Do C<|by first|omega|rfl|((try dsimp only);first|exact r8 (by simpa using E) (by first|exact .inl aa|exact .inr ab)|exact (r8 (by simpa using E)<|by first|exact .inl aa|exact .inr ab).symm|exact s8 (by first|(left;simpa using E)|exact .inr ⟨aa,ab⟩)|exact (s8<|by first|(left;simpa using E)|exact .inr ⟨aa,ab⟩).symm)) A9))
 have br:j=(J9 nd es).length:=by omega
 subst br
 subst bg
 have bh:=ak.cn5
 exact B5 C C C (vc 3 (.slice ao (U0<|J9 nd es).length co) (U0<|J9 nd es)::vc 3 (.slice ar (bd4<|J9 nd es).length aj) (bd4<|J9 nd es)::I) (by show Fit κ _ (vc 3 _ _::vc 3 (.slice _ (az6 (J9 nd es) (J9 nd es).length).num.length _) (az6 (J9 nd es) (J9 nd es).length).num::I);rw [bh];simp only [Fw,a6];exact Bi) ⟨ao,co,ar,aj,by show _=Value.tuple #[_,.slice _ (az6 (J9 nd es) (J9 nd es).length).num.length _];rw [bh];simp only [Fw,a6];rfl,rfl⟩
def z8(nd:Int)(es:List Pt):List Int:=if p9 nd es≠0 then [] else bd4 (J9 nd es)
theorem do3(E:G8 nd es)(h1:1<=nd):∀x∈z8 nd es,0<=x/\x<=nd - 1:=λx M=>by
 unfold z8 at M
 rw [An (λh=>h<|j6.2 E)] at M
 have:=(ca5<|cm7 E).2 x M
 omega
theorem cq5{κ:Ctx}{I:List Item}(hl:Sl κ I va es)(hb:es.length<=1000000)(hT:P6 κ I 0 F3):er prog κ 149 [.agg #[e7 nd,va]] I (λr J=>∃a c,r = .tuple #[.slice a (z8 nd es).length c,e7 (p9 nd es)]/\J=vq 3 a c (z8 nd es)::I):=by
 refine Ce1 Tryz.func149 C C ?_
 refine Aj<|Ge1 (Ay (cs:=[_,_]) C C C) λb1=>Z ?_
 refine Gc0 (Ac c_ C C<|M1<|Bc hl)<|Z ?_
 refine Am C (λc10=>Z ?_)<|λc10=>Z ?_
 ·have M:(z8 nd es)=[]:=By c10
  exact B5 C C C (vq 3 none 0 (z8 nd es)::I) (by unfold vq;rw [M];exact Bz (show Fit κ _ I from Af)<|Bb (α:=Int) _ _) ⟨none,0,by rw [M];rfl,rfl⟩
 refine G.e (Ac c_ C C<|fp2 (nd:=nd) (Bc hl) (j6.1<|B_.1 c10) om<|Cb hT Af) ?_
 rintro _ _ ⟨_,_,⟨ad,ab,aa,E,rfl,rfl⟩,rfl,rfl⟩
 refine Z ?_
 have M:(z8 nd es)=_:=An c10
 have hz:p9 nd es=0:=B_.1 c10
 exact B5 C C C (vq 3 aa E (z8 nd es)::I) (by unfold vq;rw [M];exact Ar) ⟨aa,E,by rw [M,hz]<;>rfl,rfl⟩
variable {κ:Ctx}{I:List Item}
theorem fy4(es:List Pt)(v:Int):(nbL es v).length<=2*es.length:=by
 induction es with
 |nil=>simp [nbL]
 |cons e es ih=>
  have M:nbL (e::es) v=((if e.u=v then [e.v] else [])++(if e.v=v then [e.u] else []))++nbL es v:=rfl
  rw [M,A_,A_,Fu]
  have h1:(if e.u=v then [e.v] else ([]:List Int)).length<=1:=by split<;>simp
  have E:(if e.v=v then [e.u] else ([]:List Int)).length<=1:=by split<;>simp
  omega
theorem ao0(hl:Sl κ I va es)(v:Int)(hb:es.length<=1000000):er prog κ 115 [.agg #[e7 nd,va],e7 v] I (λr J=>∃a c,r = .slice a (nbG nd es v).length c/\J=vq 3 a c (nbG nd es v)::I):=by
 refine Bm hl.le λap=>?_
 refine Ce2 Tryz.func115 C C ?_
 refine Aj<|Ge1 (Ay (cs:=[_,_]) C C C) λb1=>Z ?_
 refine G.e (Ac c_ C C<|K3 (nd:=nd)<|Bc hl) ?_
 rintro _ _ ⟨_,_,⟨rfl,rfl⟩,rfl,rfl⟩
 refine Z ?_
 refine Am C (λc10=>Z ?_)<|λc10=>Z ?_
 ·have hX:(nbG nd es v)=[]:=By c10
  exact Ak C C (vq 3 none 0 (nbG nd es v)::I) (by unfold vq;rw [hX];exact Bz (show Fit κ _ I from Af)<|Bb (α:=Int) _ _) ⟨none,0,by rw [hX];rfl,rfl⟩
 refine Dl (σ:=Nat×(Option Addr)×Nat×(List Int)) (λs=>[(5,.slice s.2.1 s.2.2.2.length s.2.2.1),(14,e7 ((s.1:Nat):Int))]) (λs=>[vq 3 s.2.1 s.2.2.1 s.2.2.2]) (λs=>(s.1<=es.length)/\(s.2.2.2=nbL (es.take s.1) v)) (λs=>es.length - s.1) (0,none,0,[]) ⟨om,rfl⟩ (hI:=(Bb _ _)) ?_
 rintro ⟨k,a,c,out⟩ hp
 dsimp only at hp ⊢
 obtain ⟨hk,ho⟩:=hp
 have aq:out.length<=2*es.length:=by rw [ho];refine Jt (fy4 _ _) ?_;simp only [Fx];omega
 refine Z ?_
 refine Am C (λah=>Z ?_)<|λah=>Z ?_
 ·refine Ge1 (Ah H3 C) λb2=>Ge0 (Ba H3) (Z ?_)
  refine Am C (λE=>Z ?_)<|λE=>Z ?_
  ·refine Ge1 (Bt (α:=Int) (cs:=[_]) (xs:=[(e_ es k).v]) Ab ef C C dc dc C C C C) λar=>?_
   refine Ge2 (Bv (α:=Int) (e:=3) (xs:=out) (ys:=([(e_ es k).v]:List Int)) Ab ef C C C mm A6 lap dc C<|λ_ _=>am) λai aj=>Z ?_
   refine Am C (λM=>Z ?_)<|λM=>Z ?_
   ·refine Ge1 (Bt (α:=Int) (cs:=[_]) (xs:=[(e_ es k).u]) Ab ef C C dc dc C C C C) λau=>?_
    refine Ge2 (Bv (α:=Int) (e:=3) (xs:=out++([(e_ es k).v]:List Int)) (ys:=([(e_ es k).u]:List Int)) Ab ef C C C mm A6 lap dc C<|λ_ _=>am) λan ao=>Z ?_
    exact Bh ((k+1),(an),(ao),((out++([(e_ es k).v]:List Int))++([(e_ es k).u]:List Int)))<|by dsimp only;exact ⟨om,(by rw [ba8 om,←ho];(first|rw [By E,By M]|rw [By E,An M]|rw [An E,By M]|rw [An E,An M])<;>simp)⟩
   exact Bh ((k+1),(ai),(aj),(out++([(e_ es k).v]:List Int)))<|by dsimp only;exact ⟨om,(by rw [ba8 om,←ho];(first|rw [By E,By M]|rw [By E,An M]|rw [An E,By M]|rw [An E,An M])<;>simp)⟩
  refine Am C (λM=>Z ?_)<|λM=>Z ?_
  ·refine Ge1 (Bt (α:=Int) (cs:=[_]) (xs:=[(e_ es k).u]) Ab ef C C dc dc C C C C) λav=>?_
   refine Ge2 (Bv (α:=Int) (e:=3) (xs:=out) (ys:=([(e_ es k).u]:List Int)) Ab ef C C C mm A6 lap dc C<|λ_ _=>am) λae ad=>Z ?_
   exact Bh ((k+1),(ae),(ad),(out++([(e_ es k).u]:List Int)))<|by dsimp only;exact ⟨om,(by rw [ba8 om,←ho];(first|rw [By E,By M]|rw [By E,An M]|rw [An E,By M]|rw [An E,An M])<;>simp)⟩
  exact Bh ((k+1),(a),(c),(out))<|by dsimp only;exact ⟨om,(by rw [ba8 om,←ho];(first|rw [By E,By M]|rw [By E,An M]|rw [An E,By M]|rw [An E,An M])<;>simp)⟩
 refine Gc2 (Ac c_ C C<|cq8 A6 om) λab aa=>Z ?_
 have ak:out=nbL es v:=by rw [ho,Gb om]
 subst ak
 have hX:nbG nd es v=ofL (nbL es v):=An c10
 exact Ak C C (vq 3 ab aa (nbG nd es v)::I) (by unfold vq;rw [hX];exact Ar) ⟨ab,aa,by rw [hX],rfl⟩
theorem cs3(hl:Sl κ I va es)(u v:Int)(hb:es.length<=1000000):er prog κ 203 [.agg #[e7 nd,va],e7 u,e7 v] I (λr J=>∃a c,r = .slice a (s3 nd es u v).length c/\J=vq 3 a c (s3 nd es u v)::I):=by
 refine Ce3 Tryz.func203 C C ?_
 refine Aj<|Ge1 (Ay (cs:=[_,_]) C C C) λb1=>Z ?_
 refine Am C (λc9=>Z ?_)<|λc9=>Z ?_
 ·have M:(s3 nd es u v)=[]:=By c9
  exact Ak C C (vq 3 none 0 (s3 nd es u v)::I) (by unfold vq;rw [M];exact Bz (show Fit κ _ I from Af)<|Bb (α:=Int) _ _) ⟨none,0,by rw [M];rfl,rfl⟩
 refine A8 mixed<|C1 8<|Z ?_
 refine Ds1 2<|Se C (Ac c_ C C<|ao0 (nd:=nd) (Bc hl) u om) ?_
 rintro _ _ ⟨_,_,⟨ah,ae,rfl,rfl⟩,rfl,rfl⟩
 refine ⟨Ar,?_⟩
 have ab:=ap6 nd es u
 refine Ds1 5<|Se C (Ac c_ C C<|ao0 (nd:=nd) (Bc hl) v om) ?_
 rintro _ _ ⟨_,_,⟨aj,ai,rfl,rfl⟩,rfl,rfl⟩
 refine ⟨Ar,?_⟩
 have ad:=ap6 nd es v
 refine Ds1 6<|Se C (Ac c_ C C<|bk1 A6 A6<|by have:=ap6 nd es u;omega) ?_
 rintro _ _ ⟨_,_,⟨E,aa,rfl,rfl⟩,rfl,rfl⟩
 refine ⟨Ar,?_⟩
 refine Z ?_
 have M:(s3 nd es u v)=_:=An c9
 exact Ak C C (vq 3 E aa (s3 nd es u v)::I) (by unfold vq;rw [M];exact Ar) ⟨E,aa,by rw [M],rfl⟩
theorem bt0(hl:Sl κ I va es)(u v:Int):er prog κ 64 [.agg #[e7 nd,va],e7 u,e7 v] I (λr J=>∃y:Int,r=e7 y/\go9 nd es u v y/\I=J):=by
 refine Bm hl.le λaa=>?_
 refine Ce3 Tryz.func64 C C ?_
 refine Aj<|Ge1 (Ay (cs:=[_,_]) C C C) λb1=>Z ?_
 refine G.e (Ac c_ C C<|K3 (nd:=nd)<|Bc hl) ?_
 rintro _ _ ⟨_,_,⟨rfl,rfl⟩,rfl,rfl⟩
 refine Z ?_
 refine Am C (λc11=>Z ?_)<|λc11=>Z ?_
 ·exact Ak C C I Af ⟨_,rfl,.inr ⟨rfl,.inl c11⟩,rfl⟩
 refine Dl (σ:=Nat) (λs=>[(15,e7 ((s:Nat):Int))]) (λ_=>[]) (λs=>(s<=es.length)/\(∀j,j<s->e_ es j≠F7 u v)) (λs=>es.length - s) 0 ⟨om,Et⟩ ?_
 rintro k hp
 obtain ⟨hk,hn⟩:=hp
 refine Z ?_
 refine Am C (λE=>Z ?_)<|λE=>Z ?_
 ·refine Ge1 (Ah H3 C) λb2=>Ga C (Ge0 (Ba H3) ?_)
  refine Aq<|Ax<|A8 mixed<|C1 5<|Z ?_
  refine Ds1 3<|Sc0 C (Ac c_ C C<|fd4 u v) ?_
  refine Dr 4 C (Fm (α:=Pt) (a:=(e_ es k)) (b:=(F7 u v)) cf1 C C)<|Z ?_
  refine Am C (λM=>Z ?_)<|λM=>Z ?_
  ·exact Ak C C I Af ⟨_,rfl,.inl ⟨B_.1 c11,k,rfl,by omega,M⟩,rfl⟩
  exact Bh ((k+1)) ⟨om,(Dg hn M)⟩
 have hm:F7 u v∉es:=av9 hn om
 exact Ak C C I Af ⟨_,rfl,.inr ⟨rfl,.inr hm⟩,rfl⟩
theorem cj5(hl:Sl κ I va es)(hs:Sl κ I vb set)(hb:es.length<=1000000):er prog κ 207 [.agg #[e7 nd,va],vb] I (λr J=>∃a c,r = .tuple #[.agg #[e7 (gs6 nd es),.slice a (fe5 nd es set).length c],e7 (p9 nd es)]/\J=vq 135 a c (fe5 nd es set)::I):=by
 refine Bm hl.le λaj=>?_
 refine Ce2 Tryz.func207 C C ?_
 refine Aj<|Ge1 (Ay (cs:=[_,_]) C C C) λb1=>Ge1 (Ah H2 C) λb2=>Z ?_
 refine G.e (Ac c_ C C<|K3 (nd:=nd)<|Bc hl) ?_
 rintro _ _ ⟨_,_,⟨rfl,rfl⟩,rfl,rfl⟩
 refine Z ?_
 refine Am C (λc13=>Z ?_)<|λc13=>Z ?_
 ·refine Ge0 (Ba H2) (Z ?_)
  have M:(fe5 nd es set)=[]:=By c13
  have E:gs6 nd es=0:=By c13
  exact C7 C H2 C C mm C (vq 135 none 0 (fe5 nd es set)::I) (by unfold vq;rw [M];exact Bz (show Fit κ _ I from Af)<|Bb (α:=Pt) _ _) ⟨none,0,by rw [M,E];rfl,rfl⟩
 refine Ge1 (Ah H2 C) λb3=>Ge0 (Ba H2)<|Z ?_
 refine Dl (σ:=Nat×(Option Addr)×Nat×(List Pt)) (λs=>[(22,e7 ((s.1:Nat):Int))]) (λs=>[vq 135 s.2.1 s.2.2.1 s.2.2.2,e8 b3 [e7 nd,.slice s.2.1 s.2.2.2.length s.2.2.1] 48]) (λs=>(s.1<=es.length)/\(s.2.2.2=(es.take s.1).filter λe=>decide<|e.u∈set/\e.v∈set)) (λs=>es.length - s.1) (0,none,0,[]) ⟨om,rfl⟩ (hI:=(Bb _ _)) ?_
 rintro ⟨k,a,c,out⟩ hp
 dsimp only at hp ⊢
 obtain ⟨hk,ho⟩:=hp
 have ak:out.length<=es.length:=by rw [ho];refine Jt (Gz _ _) ?_;simp only [Fx];omega
 refine Z ?_
 refine Am C (λae=>Z ?_)<|λae=>Z ?_
 ·refine Ge1 (Ah H3 C) λb4=>Ge0 (Ba H3) (Z ?_)
  refine Gc0 (Ac c_ C C<|ag7 (Bc hs)<|(e_ es k).u) ?_
  refine Gm C<|Au (d:=30) C (λab=>Z ?_)<|λab=>Z ?_
  ·refine D0 (B9 C C C) (Ac c_ C C<|ag7 (Bc hs)<|(e_ es k).v) ?_
   rintro _ _ ⟨_,_,⟨rfl,rfl⟩,rfl,rfl⟩
   refine Z ?_
   refine Am C (λaa=>Z ?_)<|λaa=>Z ?_
   ·refine Ge1 (Bt (α:=Pt) (cs:=[_,_]) (xs:=[⟨(e_ es k).u,(e_ es k).v⟩]) B2 H3 C C dc dc C C C C) λan=>?_
    refine Ge2 (Bv (α:=Pt) (e:=135) (xs:=out) (ys:=([⟨(e_ es k).u,(e_ es k).v⟩]:List Pt)) B2 H3 C C C mm A6 lcn dc C<|λ_ _=>am) λai ad=>?_
    refine Gf Z3 C<|Ge0 (D5 bm1)<|Z ?_
    exact Bh ((k+1),(ai),(ad),(out++([⟨(e_ es k).u,(e_ es k).v⟩]:List Pt)))<|by dsimp only;exact ⟨om,(by first|rw [aw5 om (D_ ⟨by assumption,by assumption⟩),←ho]|rw [bq1 om (E_<|λh=>by first|exact absurd h.1 asm|exact absurd h.2 asm),←ho])⟩
   exact Bh ((k+1),(a),(c),(out))<|by dsimp only;exact ⟨om,(by first|rw [aw5 om (D_ ⟨by assumption,by assumption⟩),←ho]|rw [bq1 om (E_<|λh=>by first|exact absurd h.1 asm|exact absurd h.2 asm),←ho])⟩
  exact Bh ((k+1),(a),(c),(out))<|by dsimp only;exact ⟨om,(by first|rw [aw5 om (D_ ⟨by assumption,by assumption⟩),←ho]|rw [bq1 om (E_<|λh=>by first|exact absurd h.1 asm|exact absurd h.2 asm),←ho])⟩
 refine Ge0 (Ba H2)<|Z ?_
 have ah:out=es.filter λe=>decide (e.u∈set/\e.v∈set):=by rw [ho,Gb om]
 have M:fe5 nd es set=out:=by rw [fk1 set c13,ah]
 have E:gs6 nd es=nd:=An c13
 have hz:p9 nd es=0:=B_.1 c13
 exact C7 C H2 C C mm C (vq 135 a c (fe5 nd es set)::I) (by unfold vq;rw [M];exact Ar) ⟨a,c,by first|(rw [M,E,hz];done)|(rw [M,E,hz];rfl),rfl⟩
theorem cr3{M E:Value}(hl:Sl κ I M es)(hs:Sl κ I E set)(hb:es.length<=1000000):er prog κ 136 [.agg #[e7 nd,M],E] I (λr J=>r=e7 ((M9 nd es set:Nat):Int)/\I=J):=by
 refine Ce2 Tryz.func136 C C ?_
 refine Aj<|Ge1 (Ay (cs:=[_,_]) C C C) λb1=>Z ?_
 refine Gc2 (Ac c_ C C<|cj5 (nd:=nd) (Bc hl) (Bc hs) om) λab aa=>Z ?_
 refine Ge1 (Ah H2 C) λb4=>Ge0 (Ba H2)<|Z ?_
 exact Ak C C I Af ⟨by rw [fk2],rfl⟩
theorem ck2(hl:Sl κ I va es)(hs:Sl κ I vb set)(hb:es.length<=1000000)(ah:set.length<=1000000):er prog κ 73 [.agg #[e7 nd,va],vb] I (λr J=>r = .tuple #[.agg #[e7 (Z6 nd es set).num,e7 (Z6 nd es set).den],e7 (p9 nd es)]/\I=J):=by
 refine Ce2 Tryz.func73 C C ?_
 refine Aj<|Ge1 (Ay (cs:=[_,_]) C C C) λb1=>Ge1 (Ah P0 C) λb2=>Z ?_
 refine G.e (Ac c_ C C<|K3 (nd:=nd)<|Bc hl) ?_
 rintro _ _ ⟨_,_,⟨rfl,rfl⟩,rfl,rfl⟩
 refine Z ?_
 refine Am C (λc11=>Z ?_)<|λc11=>Z ?_
 ·refine Ge0 (Ba P0) (Z ?_)
  have M:(Z6 nd es set)=⟨0,0⟩:=By c11
  exact C7 C P0 C C mm C I Af ⟨by first|(rw [M];done)|(rw [M];rfl),rfl⟩
 refine Gc2 (Ac c_ C C<|bz0 nd) λae ad=>?_
 refine G.e (Ac c_ C C<|bk1 (Bc hs) A6 om) ?_
 rintro _ _ ⟨_,_,⟨aj,ai,rfl,rfl⟩,rfl,rfl⟩
 refine Z ?_
 have ak:(N5 set<|K4 nd).length<=set.length:=by unfold N5;exact Jt (Gz _ _) (ap5 _)
 refine Z ?_
 refine Am C (λab=>Z ?_)<|λab=>Z ?_
 ·refine Ge0 (Ba P0) (Z ?_)
  have E:p9 nd es=0:=B_.1 c11
  have M:(Z6 nd es set)=⟨0,1⟩:=by unfold Z6;rw [An c11,By om]
  exact C7 C P0 C C mm C I Af ⟨by first|(rw [M,E];done)|(rw [M,E];rfl),rfl⟩
 refine Gc0 (Ac c_ C C<|cr3 (nd:=nd) (Bc hl) (Bc hs) om) ?_
 have aa:=aw2 nd es set
 refine Gm C<|Gc0 (Ac c_ C C<|db0 ((M9 nd es set:Nat):Int) (((N5 set<|K4 nd).length:Nat):Int) om om) ?_
 refine Ge0 (Ba P0)<|Z ?_
 have E:p9 nd es=0:=B_.1 c11
 have M:(Z6 nd es set)=mkF ((M9 nd es set:Nat):Int) ((((N5 set<|K4 nd).length:Nat)):Int):=by unfold Z6;rw [An c11,An om]
 exact C7 C P0 C C mm C I Af ⟨by first|(rw [M,E];done)|(rw [M,E];rfl),rfl⟩
end Go.Sl
namespace Go.Sl
open Go.Proofs
set_option maxRecDepth 4000
structure FrV (x:Fr):Prop where
 n0:0<=x.num
 n1:x.num<=1073741824
 d0:1<=x.den
 d1:x.den<=1073741824
 cop:af8 x.num x.den=1
theorem ds8{a b:Int}(E:0<=a)(h1:a<=1073741824)(M:0<b)(h3:b<=1073741824):FrV (mkF a b):=by
 have hn:=bg0 E M
 have hd:=bg1 (a:=a) M
 refine ⟨hn.1,by omega,hd.1,by omega,?_⟩
 obtain ⟨m,rfl⟩:=Hv E
 obtain ⟨n,rfl⟩:=Hv (show 0<=b by omega)
 have hg:0<m.gcd n:=Nat.gcd_pos_of_pos_right _ om
 have hc:=Nat.coprime_div_gcd_div_gcd hg
 unfold mkF af8
 simp only [Hu,Int.ofNat_eq_natCast,←Int.natCast_ediv]
 rw [hc.gcd_eq_one];rfl
def ak2(x y:Fr):Int:=if x.num*y.den<y.num*x.den then -1 else if y.num*x.den<x.num*y.den then 1 else 0
def G7(n:Int):Int:=if n<0 then -1 else if 0<n then 1 else 0
theorem cu2(n:Int) : -1<=G7 n/\G7 n<=1:=by unfold G7;split<;>(try split)<;>omega
theorem by8{κ:Ctx}{I:List Item}(n:Int):er prog κ 172 [e7 n] I (λr J=>r=e7 (G7 n)/\I=J):=by
 refine Ce1 Tryz.func172 C C ?_
 refine Aj<|Ga C<|Aq<|Ax<|A3<|Aj<|Gm C<|Gr (Bp C C)<|Ga C<|Aq<|Am C (λM=>?_)<|λM=>?_
 ·exact Aj<|Ga C<|Aq<|Bq<|Bf<|Az<|Ak C C I Af ⟨by unfold G7;first|rw [By M]|rw [An M,By E]|rw [An M,An E],rfl⟩
 refine Aj<|Gm C<|Gr (Cl C C)<|Ga C<|Aq<|Am C (λE=>?_)<|λE=>?_
 ·exact Aj<|Ga C<|Aq<|Bq<|Bf<|Az<|Ak C C I Af ⟨by unfold G7;first|rw [By M]|rw [An M,By E]|rw [An M,An E],rfl⟩
 exact A4<|Ap<|Al<|Aj<|Ga C<|Aq<|Bq<|Ak C C I Af ⟨by unfold G7;first|rw [By M]|rw [An M,By E]|rw [An M,An E],rfl⟩
end Go.Sl
namespace Go.Sl
open Go.RowKit (Below)
section
variable {P:Program}{κ:Ctx}{N:Frm}{L:Env}{I J:List Item}{l:Nat}{body:Code}{R:Ending->World->Prop}
def RB(P:Program)(l:Nat)(body:Code)(R:Ending->World->Prop):Exit->Act->World->Prop:=
 Exit.then (λa₁ w₁=>∃w₂,(Instr.beginRound l).run P w₁ = .ok () w₂/\body.wpIn (Fence.wide.inRound l) 0 P (roundPost P l R) a₁ w₂) (λ_ _ _=>False)
theorem V.begin{r:Loop}(J:List Item)(hf:Fit κ I (bu5 l r::J))(E:r.state = .ready/\r.pending=none)(h:WR P κ N l 0 body (roundPost P l R) L (bu5 l {r with state:= .busy}::J)):V κ N (RB P l body R) .normal L I:=λa w ha hs=>by
 have M:=hf w hs
 have hl:=(M.ok _ C_).1
 exact ⟨_,run_beginRound hl E.1,h a _ ha M.bo9⟩
theorem ah1.mkA{r:Loop}{Post:Bool->List Item->Prop}{M:List Value}{L₀:Env}{assign:Code}(aa:M.length=r.params.size)(ha:r.assign=assign)(hb:r.body=body)
  (E:Ag N {tmps:=(r.params.zip M.toArray).foldl (λt (p,v)=>t.setIfInBounds p v) r.tmps,defers:=[]} L₀)
  (h:WR P κ N l 0 assign (RB P l body λe w'=>∃b,e = .returned (.bool b)/\∃K,Post b K/\Sep κ w' K) L₀ (bu5 l r::I)):ah1 P κ l M (bu5 l r::I) Post:=λw hs=>by
 have hl:=(hs.ok _ C_).1
 subst ha hb
 exact ⟨_,_,_,_,run_yield hl<|by simpa using aa,roundIn_of_wpIn trivial<|h _ w E hs⟩
theorem gn2{tm:Array Value}{v u:Value}{p q:Nat}(M:Ag ⟨N.n,[]⟩ {tmps:=tm,defers:=[]} L)(E:Nat.blt p N.n=true)(hq:Nat.blt q N.n=true):Ag ⟨N.n,[]⟩ {tmps:=(tm.setIfInBounds p v).setIfInBounds q u,defers:=[]} ((q,u)::(p,v)::L):=(M.put p E v).put q hq u
end
end Go.Sl
