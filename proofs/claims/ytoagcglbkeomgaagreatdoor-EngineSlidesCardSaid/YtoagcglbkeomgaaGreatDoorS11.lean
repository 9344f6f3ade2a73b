/- A part of the proofs of statements of this seat: contracts of functions, and the plain laws that they lean on. No conditions. -/
import Derived.Test.YtoagcglbkeomgaaGreatDoorS10
import Derived.Test.YtoagcglbkeomgaaGreatDoorS9
import Derived.ScopeJumps
set_option linter.unusedVariables false
set_option linter.unusedSimpArgs false
set_option linter.unusedSectionVars false
open Go.Proofs.Tryz (prog)
open List (replicate)
namespace Go.Sl
open Go.Proofs
set_option maxRecDepth 4000
variable{nd:Int}{es:List Pt}{c n:Nat}{ad:Option Addr}{xs:List Lk}{va:Value}
variable {κ:Ctx}{I:List Item}
theorem addRow_no{rows:List (BitVec 64)}{e:Pt}(h:¬(0<=e.u/\e.u<e.v/\e.v<rows.length)):addRow rows e=rows:=by unfold addRow;rw [if_neg h]
theorem MRows_ok{v:Value}(hl:Sl κ I v es):eu prog κ 154 [.agg #[e7 nd,v]] I (λr J=>∃a c,r = .slice a (ek nd es).length c/\J=vk 207 a c (ek nd es)::I):=by
 refine B5 hl.le λan=>?_
 refine Ce1 Tryz.func154 C C ?_
 refine Ad<|Ge1 (Bd (cs:=[_,_]) C C C) λb1=>Ga C<|Ac<|Ad<|Gf fld38_0 C<|Gl ef ?_
 refine Gr (Dm C C)<|Gr (Es C C)<|Ge2 (E7 (α:=(BitVec 64)) (n:=(min (max nd 0) 64).toNat) B8 ty207 C C C om om dc C) λab aa=>?_
 refine Ga C ?_
 have ak:(replicate (min (max nd 0) 64).toNat (default:(BitVec 64))).length=(min (max nd 0) 64).toNat:=List.length_replicate
 refine Ac<|Ar<|Ad<|Gf fld38_1 C<|Gl ty36 ?_
 refine Gr (Bw (α:=Pt) (xs:=es) A6 C<|A8 hl)<|Gm C<|Ac<|A5<|B1 (σ:=Nat×(List<|BitVec 64)) (λs=>([(3,.slice ab (replicate ((min (max nd 0) 64).toNat) (default:(BitVec 64))).length aa),(12,v),(13,e7 ((es.length:Nat):Int)),(14,e7 ((s.1:Nat):Int))]:Env)) (λs=>vc 207 (.slice ab (replicate ((min (max nd 0) 64).toNat) (default:(BitVec 64))).length aa) (s.2)::e8 b1 [e7 nd,v] 38::I) (λs=>(s.1<=es.length)/\(s.2=ek nd (es.take s.1))/\(s.2.length=(min (max nd 0) 64).toNat)) (λs=>es.length - s.1) (0,replicate (min (max nd 0) 64).toNat (default:(BitVec 64))) (show ((0:Nat)<=es.length)/\((replicate (min (max nd 0) 64).toNat (default:(BitVec 64)):List (BitVec 64))=ek nd (es.take (0:Nat)))/\((replicate (min (max nd 0) 64).toNat (default:(BitVec 64)):List (BitVec 64)).length=(min (max nd 0) 64).toNat) from ⟨om,rfl,(by simp)⟩) (cx2<|Aa C<|Aa Cd Bp) (show Fit κ _ (vc 207 (.slice ab (replicate ((min (max nd 0) 64).toNat) (default:(BitVec 64))).length aa) ((replicate (min (max nd 0) 64).toNat (default:(BitVec 64))))::e8 b1 [e7 nd,v] 38::I) from Bg) ?_
 rintro ⟨k,rows⟩ hp
 dsimp only at hp ⊢
 obtain ⟨hk,hr,M⟩:=hp
 refine Ad<|Gr (A9 C C)<|Ac<|Ar<|A7 C (λai=>?_)<|λai=>?_
 ·refine Aw (Ah<|Ar<|A5<|Ad<|Gr (A3 (α:=Pt) (xs:=es) A6 ty105 C C (A8 hl) om oo)<|Gr (Bv (α:=Pt) (xs:=es) ty105 C (A8 hl) om oo)<|Ge1 (A4 ty105 C) λb4=>Ge0 (Cz ty105) ?_)
  refine Ac<|Ad<|Gf fld105_0 C<|Gl ef ?_
  refine Gr (Cv C C)<|Gm C<|Bh (d:=21) C (λaj=>?_)<|λaj=>?_
  ·refine e9 (Ab fld105_0 C) (e9 (A0 ef) ?_)
   refine e9 (Ab fld105_1 C)<|e9 (A0 ef) ?_
   refine e9 (A9 C C)<|Gr (Av C C)<|Gm C<|Bh (d:=28) C (λah=>?_)<|λah=>?_
   ·refine e9 (Ab fld105_1 C) (e9 (A0 ef) ?_)
    refine e9 (Ai C)<|e9 (Bk B8 C)<|e9 (A9 C C)<|Gr (Av C C)<|Ac<|Ap (S6 34 5 3 12 13 14)<|A7 C (λae=>?_)<|λae=>?_
    ·refine Ar (Bs mixed<|Cc (e8 b4 [e7 ((e_ es k).u),e7<|(e_ es k).v] 105::vc 207 (.slice ab (replicate ((min (max nd 0) 64).toNat) (default:(BitVec 64))).length aa) (rows)::e8 b1 [e7 nd,v] 38::I) 10<|Dr 0 C (Ai C)<|Dr 1 C (Ab fld105_0 C)<|Dr 2 C (A0 ef) ?_)
     refine Dr 3 C (A3 (α:=(BitVec 64)) (xs:=rows) B8 ty207 C C Bi om oo)<|Dr 4 C (B9 (α:=(BitVec 64)) (xs:=rows) (u:=U64 ((e_ rows<|(e_ es k).u))) ty207 C Bi om oo C)<|Dr 5 C (Ab fld105_1 C)<|Dr 6 C (A0 ef) ?_
     refine Dr 7 C (Runs.shlB (a:=1#64) C C om om)<|Dr 8 C (Ei (a:=(e_ rows<|(e_ es k).u)) (b:=(1#64) <<< ((e_ es k).v).toNat) C C)<|Dr 9 C (A3 (α:=(BitVec 64)) (xs:=rows) B8 ty207 C C Bi om oo)<|Cs kr ?_
     refine Ae 10 C (C1 (α:=(BitVec 64)) (xs:=rows) (e:=207) (new:=(e_ rows<|(e_ es k).u) ||| ((1#64) <<< ((e_ es k).v).toNat)) ty207 C C C om oo am) ?_
     rintro _ _ ⟨rfl,rfl⟩
     refine Ct kr ?_
     refine Ah<|Ap (S5 5 3 12 13 14)<|Bs mixed<|Cc (e8 b4 [e7 ((e_ es k).u),e7<|(e_ es k).v] 105::vc 207 (.slice ab (replicate ((min (max nd 0) 64).toNat) (default:(BitVec 64))).length aa) (List.set rows ((e_ es k).u).toNat ((e_ rows<|(e_ es k).u) ||| ((1#64) <<< ((e_ es k).v).toNat)))::e8 b1 [e7 nd,v] 38::I) 10<|Dr 0 C (Ai C)<|Dr 1 C (Ab fld105_1 C)<|Dr 2 C (A0 ef) ?_
     refine Dr 3 C (A3 (α:=(BitVec 64)) (xs:=List.set rows ((e_ es k).u).toNat ((e_ rows<|(e_ es k).u) ||| ((1#64) <<< ((e_ es k).v).toNat))) B8 ty207 C C Bi om oo)<|Dr 4 C (B9 (α:=(BitVec 64)) (xs:=List.set rows ((e_ es k).u).toNat ((e_ rows<|(e_ es k).u) ||| ((1#64) <<< ((e_ es k).v).toNat))) (u:=U64 ((e_ (List.set rows ((e_ es k).u).toNat ((e_ rows<|(e_ es k).u) ||| ((1#64) <<< ((e_ es k).v).toNat)))<|(e_ es k).v))) ty207 C Bi om oo C)<|Dr 5 C (Ab fld105_0 C)<|Dr 6 C (A0 ef) ?_
     refine Dr 7 C (Runs.shlB (a:=1#64) C C om om)<|Dr 8 C (Ei (a:=(e_ (List.set rows ((e_ es k).u).toNat ((e_ rows<|(e_ es k).u) ||| ((1#64) <<< ((e_ es k).v).toNat)))<|(e_ es k).v)) (b:=(1#64) <<< ((e_ es k).u).toNat) C C)<|Dr 9 C (A3 (α:=(BitVec 64)) (xs:=List.set rows ((e_ es k).u).toNat ((e_ rows<|(e_ es k).u) ||| ((1#64) <<< ((e_ es k).v).toNat))) B8 ty207 C C Bi om oo)<|Cs kr ?_
     refine Ae 10 C (C1 (α:=(BitVec 64)) (xs:=List.set rows ((e_ es k).u).toNat ((e_ rows<|(e_ es k).u) ||| ((1#64) <<< ((e_ es k).v).toNat))) (e:=207) (new:=(e_ (List.set rows ((e_ es k).u).toNat ((e_ rows<|(e_ es k).u) ||| ((1#64) <<< ((e_ es k).v).toNat)))<|(e_ es k).v) ||| ((1#64) <<< ((e_ es k).u).toNat)) ty207 C C C om oo am) ?_
     rintro _ _ ⟨rfl,rfl⟩
     refine Ct kr ?_
     refine Am<|Ah<|Ap (S4 3 12 13 14)<|Ay<|Gr (Rad C C)<|Gm C<|Bj ?_
     have Z:List.set (List.set rows ((e_ es k).u).toNat ((e_ rows<|(e_ es k).u) ||| ((1#64) <<< ((e_ es k).v).toNat))) ((e_ es k).v).toNat ((e_ (List.set rows ((e_ es k).u).toNat ((e_ rows<|(e_ es k).u) ||| ((1#64) <<< ((e_ es k).v).toNat)))<|(e_ es k).v) ||| ((1#64) <<< ((e_ es k).u).toNat))=addRow rows (e_ es k):=by unfold addRow;rw [if_pos om]
     rw [Z]
     exact Cb ((k+1),(addRow rows<|e_ es k))<|by dsimp only;exact ⟨om,(by rw [rowsB_take om,←hr];first|done|exact Z),(by first|exact M|(rw [addRow_len];exact M))⟩
    refine Aw<|Am<|Ah<|Ay<|Gr (Rad C C)<|Gm C<|Bj ?_
    have Z:rows=addRow rows (e_ es k):=(addRow_no om).symm
    exact Cb ((k+1),(rows))<|by dsimp only;exact ⟨om,(by rw [rowsB_take om,←hr];first|done|exact Z),(by first|exact M|(rw [addRow_len];exact M))⟩
   refine eb<|eb<|eb<|eb<|eb<|Gr (Au C C)<|Ac<|Ap (S6 34 5 3 12 13 14)<|Dg C<|Aw<|Am<|Ah<|Ay<|Gr (Rad C C)<|Gm C<|Bj ?_
   have Z:rows=addRow rows (e_ es k):=(addRow_no om).symm
   exact Cb ((k+1),(rows))<|by dsimp only;exact ⟨om,(by rw [rowsB_take om,←hr];first|done|exact Z),(by first|exact M|(rw [addRow_len];exact M))⟩
  refine eb<|eb<|eb<|eb<|eb<|Gr (Au C C)<|Gm C<|eb<|eb<|eb<|eb<|eb<|Gr (Au C C)<|Ac<|Ap (S6 34 5 3 12 13 14)<|Dg C<|Aw<|Am<|Ah<|Ay<|Gr (Rad C C)<|Gm C<|Bj ?_
  have Z:rows=addRow rows (e_ es k):=(addRow_no om).symm
  exact Cb ((k+1),(rows))<|by dsimp only;exact ⟨om,(by rw [rowsB_take om,←hr];first|done|exact Z),(by first|exact M|(rw [addRow_len];exact M))⟩
 refine Bt<|Aq<|Aq<|Bb<|Ah<|Ad<|Gm C<|Ga C<|Ac<|Az ?_
 rw [List.take_of_length_le om] at hr
 subst hr
 have ad:(ek nd es).length=(replicate (min (max nd 0) 64).toNat (default:(BitVec 64))).length:=by omega
 exact A1 C C (vk 207 ab aa (ek nd es)::I) (by unfold vk;rw [ad];exact Bg) ⟨_,_,by rw [ad],rfl⟩
theorem DeleteE_at{F:Item->List Item}{a:Option Addr}{i j:Nat}{xs:List Pt}(aa:AtF I (vc 105 (.slice a n c) xs) F)(hn:n=xs.length)(M:i<j)(hj:j<=xs.length)(ab:xs.length<=1000000000):eu prog κ 274 [.slice a n c,e7 (i:Int),e7 (j:Int)] I λr J=>∃ys:List Pt,(r = .slice a (List.take i xs++List.drop j xs).length c/\ys=(List.take i xs++List.drop j xs))/\J=[]++F (vk 105 a c ys):=
 eu.at (Z:=λ_=>[]) (X:=λys:List Pt=>vk 105 a c ys) (Post:=λr ys=>r = .slice a (List.take i xs++List.drop j xs).length c/\ys=(List.take i xs++List.drop j xs)) aa λJ _ _=>by subst hn;exact (DeleteE_ok M hj ab).mono λr J' h=>⟨_,⟨h.1,rfl⟩,h.2.symm⟩
theorem RemG_ok{nd:Int}{a0:Option Addr}{c0:Nat}{es:List Pt}(hl:Sl κ I (.slice a0 es.length c0) es)(u v:Int)(hb:es.length<=10000000):eu prog κ 263 [.agg #[e7 nd,.slice a0 es.length c0],e7 u,e7 v] I (λr J=>(remG nd es u v≠0/\r = .tuple #[.agg #[e7 0,.slice none 0 0],e7 (remG nd es u v)]/\I=J)\/(∃a c,remG nd es u v=0/\r = .tuple #[.agg #[e7 nd,.slice a (without es (edgeP u v)).length c],e7 0]/\J=vc 105 (.slice a (without es (edgeP u v)).length c) (without es (edgeP u v))::I)):=by
 refine Ce3 Tryz.func263 C C ?_
 refine Ad (Ge1 (Bd (cs:=[_,_]) C C C) λb1=>Ge1 (A4 ty38 C) λb2=>Ga C (Ac (Ar (Ad (Gl2 ty38 ?_)))))
 refine Gm C (Gm C (Gc0 (Aj c_ C C (Change_ok (A8 hl) u v)) ?_))
 refine Ga C (Ac (Ad (Gm C (Gr (Be C C) (Ac (A7 C (λc16=>?_) (λc16=>?_)))))))
 ·refine Ad (Gr (Bq (cells:=[_,_]) ty38 Da pl38 C C) (Gm C (Ge0 (Cz ty38) ?_)))
  refine Ga C (Ac (Ap (S2 7 6 C C) (Az (Ao ?_))))
  have hz:remG nd es u v=changeG nd es u v:=by unfold remG;rw [if_pos om]
  exact C0 C ty38 C C mm C I Ax (.inl ⟨by rw [hz];omega,by rw [hz],rfl⟩)
 refine Aw (Ah (Ad (Gl2 ty38 ?_)))
 refine Gm C (Gm C (G.e (Aj c_ C C (Place_ok (A8 hl) u v om)) ?_))
 rintro _ _ ⟨_,_,⟨i3,q4,rfl,hi3,rfl⟩,rfl,rfl⟩
 have hG:=(changeG_zero.1 (by omega:changeG nd es u v=0)).1
 have hile:=hi3.le
 refine Gm C (Gr (Ak C C) (Gr (Ak C C) (Ga C (Ga C (Ac (Ap (S4 10 9 6 3 C C C C) (Ar (Ad (Gm C (Gr (Dc C) (Ac (A7 C (λc27=>?_) (λc27=>?_)))))))))))))
 ·refine Ad (Gr (Bq (cells:=[_,_]) ty38 Da pl38 C C) (Ge0 (Cz ty38) ?_))
  refine Ga C (Ac (Az (Ao ?_)))
  have hz:remG nd es u v=7:=by unfold remG;rw [if_neg om,if_neg (λhm=>c27 ((hi3.mem hG.asc).2 hm))]
  exact C0 C ty38 C C mm C I Ax (.inl ⟨by rw [hz];decide,by rw [hz],rfl⟩)
 refine Aw (Ah (Ar (Bs mixed (Cc (e8 b2 [e7 0,.slice none 0 0] 38::e8 b1 [e7 nd,.slice a0 es.length c0] 38::I) 10 (Dr 0 C (Ab fld38_0 C) (Dr 1 C (A0 ef) ?_))))))
 refine Dr 2 C (Ab fld38_1 C) (Dr 3 C (A0 ty36) ?_)
 refine Dr 5 C (Ai C) (Dr 6 C (Ai C) (Dr 7 C (Rad C C) (Ds1 4 (Sc2 C (Aj c_ C C (CloneE (xs:=es) (A8 hl) om)) λad5 cp6=>?_))))
 refine Ds1 8 (Se C (Aj c_ C C (DeleteE_at (i:=i3) (j:=(i3+1)) (by repeat (first|exact AtF.head _ _|apply AtF.tail)) C om om om)) ?_)
 rintro _ _ ⟨_,_,⟨_,⟨rfl,rfl⟩,rfl⟩,rfl,rfl⟩
 refine ⟨Bg,?_⟩
 show D prog κ _ _ _ _ _ _ _ ([(37,.slice ad5 (List.take i3 es++List.drop (i3+1) es).length cp6),(33,.slice ad5 es.length cp6),(36,e7 ((i3:Int)+1)),(35,e7 ((i3:Int))),(34,e7 ((i3:Int))),(32,.slice a0 es.length c0),(31,.pointer (some ⟨b1,1,none⟩)),(30,e7 nd),(29,.pointer (some ⟨b1,0,none⟩)),(27,.bool (decide (¬(i3<es.length/\e_ es i3=edgeP u v)))),(26,.bool (decide (i3<es.length/\e_ es i3=edgeP u v))),(10,.bool (decide (i3<es.length/\e_ es i3=edgeP u v))),(9,e7 ((i3:Int))),(6,.pointer (some ⟨b2,0,none⟩)),(3,.pointer (some ⟨b1,0,none⟩))]:Env) (vc 105 (.slice ad5 (List.take i3 es++List.drop (i3+1) es).length cp6) (List.take i3 es++List.drop (i3+1) es)::e8 b2 [e7 0,.slice none 0 0] 38::e8 b1 [e7 nd,.slice a0 es.length c0] 38::I)
 refine Dr 9 C (Bq (cells:=[_,_]) ty38 Da pl38 C C) (Cs kr ?_)
 refine Ae 10 C (Cz ty38) ?_
 rintro _ _ ⟨rfl,rfl⟩
 refine Dv (i:=11) kr C (Bm C) C C (Bf C) ?_
 refine Ct kr ?_
 refine Ah (Ap (S2 7 6 C C) (Az ?_))
 have hz:remG nd es u v=0:=by unfold remG;rw [if_neg om,if_pos ((hi3.mem hG.asc).1 (Classical.not_not.1 c27))]
 have hE:List.take i3 es++List.drop (i3+1) es=(without es (edgeP u v)):=hi3.del hG.asc ((hi3.mem hG.asc).1 (Classical.not_not.1 c27))
 exact C0 C ty38 C C mm C (vc 105 (.slice ad5 (without es (edgeP u v)).length cp6) (without es (edgeP u v))::I) (by rw [←hE];exact Bg) (.inr ⟨ad5,cp6,hz,by rw [←hE];rfl,rfl⟩)

section
variable {P:Program}{κ:Ctx}{N:Frm}{L:Env}{I J:List Item}{d:Option Tmp}{ty:TypeId}{ps:String}{af:Array Edge}{gd:Option (Nat×Bool)}
theorem vc.isSome{α:Type}[Enc α]{xs:List α}{e:TypeId}(h:vc e (.slice ad n c) xs∈I):∀w,Sep κ w I->(0<xs.length->ad≠none):=λw hs hlt=>by
 obtain ⟨b,o,cap,M,_⟩:=((De (κ:=κ) h) w hs).some hlt
 cases M
 exact λZ=>by cases Z
theorem Runs.idxs(α:Type)[Enc α]{x y:Operand}{T E by':Nat}{ag:Bool}{z:List Value}{i:Int}(ht:P.underlying T=some (.slice E))(hE:tyF P E=some (Enc.sz α,ag,by',z))(hx:er L x=some (.slice ad n c))
  (M:er L y=some (e7 i)) (Z:ad≠none) (h0:0<=i) (hn:i<n):Runs P κ N ⟨d,.indexAddr T x y,ty,ps,af,gd⟩ L J (elemPtr (.slice ad n c)<|i.toNat*Enc.sz α):=by
 cases ad with
 |none=>exact absurd rfl Z
 |some ad=>exact λa w Z hs=>by simp [execOp,Z.eval hx,Z.eval M,Instr.indexAt,asIntOf,run_underlying ht,h0,hn,run_sizeOf hE,elemPtr]
end
variable {κ:Ctx}{I:List Item}
theorem edgesK_take{k:Nat}(h:k<xs.length):edgesK (xs.take (k+1))=edgesK (xs.take k)++[(⟨(e_ xs k).u,(e_ xs k).v⟩:Pt)]:=by
 unfold edgesK;rw [Cj xs k h,List.map_append];rfl
theorem LEdges_ok(Z:Sl κ I va xs)(ah:xs.length<=100000):eu prog κ 108 [.agg #[e7 nd,va]] I (λr J=>∃a c,r = .agg #[e7 nd,.slice a (edgesK xs).length c]/\J=vk 105 a c (edgesK xs)::I):=by
 refine B5 Z.le λab=>?_
 refine Ce1 Tryz.func108 C C ?_
 refine Ad<|Ge1 (Bd (cs:=[_,_]) C C C) λb1=>Ge1 (A4 ty38 C) λb2=>Ac<|Ad<|Gf fld35_0 C<|Gl ef ?_
 refine Gr (Bq (cells:=[_,_]) ty38 Da pl38 C C)<|Ge1 (A4 ty38 C) λb3=>Ge0 (Cz ty38) ?_
 refine Ac<|Ar<|Ad<|Gf fld35_1 C<|Gl ty33 ?_
 refine Gr (Bw (α:=Lk) (xs:=xs) A2 C<|A8 Z)<|Gm C<|Ac<|A5<|B1 (σ:=Nat×(Option Addr)×Nat×(List Pt)) (λs=>([(2,pt b2),(3,pt b3),(10,va),(11,e7 ((xs.length:Nat):Int)),(12,e7 ((s.1:Nat):Int))]:Env)) (λs=>vk 105 s.2.1 s.2.2.1 s.2.2.2::e8 b3 [e7 nd,.slice s.2.1 s.2.2.2.length s.2.2.1] 38::e8 b2 [e7 0,.slice none 0 0] 38::e8 b1 [e7 nd,va] 35::I) (λs=>(s.1<=xs.length)/\(s.2.2.2=edgesK (xs.take s.1))) (λs=>xs.length - s.1) (0,none,0,[]) (show ((0:Nat)<=xs.length)/\(([]:List Pt)=edgesK (xs.take (0:Nat))) from ⟨om,rfl⟩) (cx4<|Aa Cd Bp) (show Fit κ _ (vk 105 none 0 ([])::e8 b3 [e7 nd,.slice none ([]).length 0] 38::e8 b2 [e7 0,.slice none 0 0] 38::e8 b1 [e7 nd,va] 35::I) from (Cf _ _)) ?_
 rintro ⟨k,a,c,out⟩ hp
 dsimp only at hp ⊢
 obtain ⟨hk,ho⟩:=hp
 have ae:out.length=k:=by rw [ho,edgesK_len,List.length_take];omega
 refine Ad<|Gr (A9 C C)<|Ac<|Ar<|A7 C (λc13=>?_)<|λc13=>?_
 ·refine Aw (Ah<|Ar<|A5<|Ad<|Gr (A3 (α:=Lk) (xs:=xs) A2 ty82 C C (A8 Z) om om)<|Gr (Bv (α:=Lk) (xs:=xs) ty82 C (A8 Z) om om)<|Ge1 (A4 ty82 C) λb4=>Ge0 (Es6_6 ty82) ?_)
  refine Ac<|Ay<|Gf fld38_1 C<|Gl ty36 ?_
  refine Gf fld82_0 C<|Gl ef ?_
  refine Gf fld82_1 C<|Gl ef ?_
  refine Gr (Bq (cells:=[_,_]) ty105 Ds pl105 C C)<|Ge1 (Ce (α:=Pt) (cs:=[_,_]) (xs:=[⟨(e_ xs k).u,(e_ xs k).v⟩]) A6 ty105 C C dc dc C C C C) λad=>?_
  refine Ge2 (B3 (α:=Pt) (e:=105) (xs:=out) (ys:=([⟨(e_ xs k).u,(e_ xs k).v⟩]:List Pt)) A6 ty105 C C C mm Bi lcn dc C<|λ_ _=>am) λM aa=>?_
  refine Gf fld38_1 C<|Ge0 (Es2_1 ty36) ?_
  exact Bj<|Am<|Ah<|Ap (S5 2 3 10 11 12)<|Ay<|Gr (Rad C C)<|Gm C<|Bj<|Cb ((k+1),(M),(aa),(out++([⟨(e_ xs k).u,(e_ xs k).v⟩]:List Pt)))<|by dsimp only;exact ⟨om,(by rw [edgesK_take om,←ho])⟩
 refine Bt<|Aq<|Aq<|Bb<|Ah<|Ad<|Gl2 ty38 ?_
 refine Ge0 (Cz ty38) ?_
 refine Ac<|Az ?_
 have hE:out=edgesK xs:=by rw [ho,List.take_of_length_le om]
 exact Ez C ty38 C mm C (vk 105 a c (edgesK xs)::I) (by unfold vk;rw [←hE];exact Bl) ⟨a,c,by rw [←hE]<;>rfl,rfl⟩
theorem LGraph_ok(hl:Sl κ I va xs)(hv:checkS nd xs=0)(aa:xs.length<=100000):eu prog κ 57 [.agg #[e7 nd,va]] I (λr J=>∃a c,r = .tuple #[.agg #[e7 nd,.slice a (edgesK xs).length c],e7 0]/\J=vk 105 a c (edgesK xs)::I):=by
 refine Ce1 Tryz.func57 C C ?_
 refine Ad<|Ge1 (Bd (cs:=[_,_]) C C C) λb1=>Ge1 (A4 ty38 C) λb2=>Ga C<|Ac<|Ar<|Ad<|Gl2 ty35 ?_
 refine G.e (Aj c_ C C<|CheckS_ok (nd:=nd)<|A8 hl) ?_
 rintro _ _ ⟨_,_,⟨rfl,rfl⟩,rfl,rfl⟩
 refine Ga C<|Ac<|Ad<|Gm C<|Gr (Be C C)<|Ac<|A7 C (λc8=>?_)<|λc8=>?_
 ·exact absurd hv c8
 refine Aw<|Ah<|Ad<|Gl2 ty35 ?_
 refine G.e (Aj c_ C C<|LEdges_ok (nd:=nd) (A8 hl) om) ?_
 rintro _ _ ⟨_,_,⟨M,Z,rfl,rfl⟩,rfl,rfl⟩
 refine Ge0 (Cz ty38) ?_
 exact Ga C<|Ac<|Az<|C0 C ty38 C C mm C (vk 105 M Z (edgesK xs)::I) Bl ⟨M,Z,rfl,rfl⟩
end Go.Sl
namespace Go.Sl
end Go.Sl
namespace Go.Sl
end Go.Sl
namespace Go.Sl
end Go.Sl
namespace Go.Sl
def sideL(N:Nat)(R:Int->Bool):List Int:=((List.range N).map λk=>((k:Nat):Int)).filter R
theorem mem_sideL{N:Nat}{R:Int->Bool}{z:Int}:z∈sideL N R↔(0<=z/\z<N)/\R z=true:=by
 unfold sideL
 rw [List.mem_filter,List.mem_map]
 constructor
 ·rintro ⟨⟨k,Z,rfl⟩,h⟩
  exact ⟨⟨by omega,by have:=List.mem_range.1 Z;omega⟩,h⟩
 rintro ⟨⟨M,h1⟩,h⟩
 exact ⟨⟨z.toNat,List.mem_range.2 om,by omega⟩,h⟩
end Go.Sl
namespace Go.Sl
end Go.Sl
namespace Go.Sl
end Go.Sl
namespace Go.Sl
end Go.Sl
namespace Go.Sl
open Go.Proofs
set_option maxRecDepth 4000
theorem intLin:LinO (λa b:Int=>a<b):=⟨λa h=>by omega,λa b c Z M=>by omega,λa b=>by omega⟩
theorem putL_eq(x:Int):∀l,putL l x=insB (λa b:Int=>a<b) l x
 |[]=>rfl
 |y::ys=>by simp only [putL,insB,putL_eq x ys]
theorem ofL_eq(l:List Int):ofL l=sortB (λa b:Int=>a<b) l:=by
 unfold ofL sortB
 congr 1
 funext acc x
 exact putL_eq x acc
theorem ofL_asc(l:List Int):(ofL l).Pairwise (λa b:Int=>a<b):=by rw [ofL_eq];exact intLin.sortB l
end Go.Sl
namespace Go.Sl
end Go.Sl
namespace Go.Sl
end Go.Sl
namespace Go.Sl
def subN(nd:Int)(W:BitVec 64):Prop:=∀x∈eo W,x<nd
end Go.Sl
namespace Go.Sl
end Go.Sl
namespace Go.Sl
end Go.Sl
namespace Go.Sl
end Go.Sl
namespace Go.Sl
open Go.Proofs
set_option maxRecDepth 4000
end Go.Sl
namespace Go.Sl
variable{M Z a b c d2 m1 m2 m3 n n4 n5 n6 u:Nat}
def valN:List Nat->Nat
 |[]=>0
 |b::bs=>2 ^ 8*valN bs+b
theorem and_dig{d:Nat}(M:b<2 ^ 8)(Z:d<2 ^ 8):(2 ^ 8*a+b) &&& (2 ^ 8*c+d)=2 ^ 8*(a &&& c)+(b &&& d):=by
 refine Nat.eq_of_testBit_eq λj=>?_
 rw [Nat.testBit_and,Nat.testBit_two_pow_mul_add _ M,Nat.testBit_two_pow_mul_add _ Z,Nat.testBit_two_pow_mul_add _<|Nat.and_lt_two_pow _ Z]
 by_cases h:j<8
 ·rw [if_pos h,if_pos h,if_pos h,Nat.testBit_and]
 rw [if_neg h,if_neg h,if_neg h,Nat.testBit_and]
def repN(c:Nat)(k:Nat):Nat:=valN (replicate k c)
theorem repN_succ(c k:Nat):repN c (k+1)=2 ^ 8*repN c k+c:=rfl
def p1(b:Nat):Nat:=((b / 2) &&& 85)+(b &&& 85)
def p2(b:Nat):Nat:=((b / 4) &&& 51)+(b &&& 51)
def p3(b:Nat):Nat:=(b / 16+b) % 16
theorem c1:∀t:Fin 2,∀x:Fin 128,(128*t.val+x.val) &&& 85=x.val &&& 85:=by decide+kernel
theorem c2:∀t:Fin 4,∀x:Fin 64,(64*t.val+x.val) &&& 51=x.val &&& 51:=by decide+kernel
theorem b1:∀b:Fin 256,p1 b.val<256/\p2 (p1 b.val) % 16<=4/\p2 (p1 b.val) / 16<=4/\p3 (p2 (p1 b.val))<=8/\p3 (p2 (p1 b.val))=((List.range 8).filter λj=>b.val.testBit j).length:=by decide+kernel
theorem step1:∀bs:List Nat,(∀b∈bs,b<256)->((valN bs / 2) &&& repN 85 bs.length)+(valN bs &&& repN 85 bs.length)=valN (bs.map p1)
 |[],_=>rfl
 |b::bs,h=>by
  have hb:=h b List.mem_cons_self
  have ih:=step1 bs λx M=>h x (List.mem_cons_of_mem _ M)
  rw [List.length_cons,repN_succ,List.map_cons]
  simp only [valN]
  have e:(2 ^ 8*valN bs+b) / 2=2 ^ 8*(valN bs / 2)+(128*(valN bs % 2)+b / 2):=by omega
  have Z:=c1 ⟨valN bs % 2,by omega⟩ ⟨b / 2,by omega⟩
  simp only at Z
  rw [e,and_dig (by omega)<|by decide,and_dig (by omega)<|by decide,Z]
  rw [show p1 b=(b / 2 &&& 85)+(b &&& 85) from rfl]
  omega
theorem step2:∀bs:List Nat,(∀b∈bs,b<256)->((valN bs / 4) &&& repN 51 bs.length)+(valN bs &&& repN 51 bs.length)=valN (bs.map p2)
 |[],_=>rfl
 |b::bs,h=>by
  have hb:=h b List.mem_cons_self
  have ih:=step2 bs λx M=>h x (List.mem_cons_of_mem _ M)
  rw [List.length_cons,repN_succ,List.map_cons]
  simp only [valN]
  have e:(2 ^ 8*valN bs+b) / 4=2 ^ 8*(valN bs / 4)+(64*(valN bs % 4)+b / 4):=by omega
  have Z:=c2 ⟨valN bs % 4,by omega⟩ ⟨b / 4,by omega⟩
  simp only at Z
  rw [e,and_dig (by omega)<|by decide,and_dig (by omega)<|by decide,Z]
  rw [show p2 b=(b / 4 &&& 51)+(b &&& 51) from rfl]
  omega
theorem step3:∀bs:List Nat,(∀b∈bs,b % 16<=4/\b / 16<=4)->(valN bs / 16+valN bs) &&& repN 15 bs.length=valN (bs.map p3)
 |[],_=>rfl
 |b::bs,h=>by
  have hb:=h b List.mem_cons_self
  have M:=step3 bs λx Z=>h x (List.mem_cons_of_mem _ Z)
  have hn:valN bs % 16<=4:=by
   cases bs with
   |nil=>simp [valN]
   |cons c cs=>
    have:=(h c<|List.mem_cons_of_mem _ List.mem_cons_self).1
    simp only [valN];omega
  rw [List.length_cons,repN_succ,List.map_cons]
  simp only [valN]
  have e:(2 ^ 8*valN bs+b) / 16+(2 ^ 8*valN bs+b)=2 ^ 8*(valN bs / 16+valN bs)+(16*(valN bs % 16)+b / 16+b):=by omega
  rw [e,and_dig (by omega)<|by decide,M,show (15:Nat)=2 ^ 4 - 1 by decide,Nat.and_two_pow_sub_one_eq_mod]
  rw [show p3 b=(b / 16+b) % 16 from rfl]
  omega
def bytesN(n:Nat):Nat->List Nat
 |0=>[]
 |k+1=>n % 256::bytesN (n / 256) k
theorem bytesN_len(n k:Nat):(bytesN n k).length=k:=by
 induction k generalizing n with
 |zero=>rfl
 |succ k ih=>simp [bytesN,ih]
theorem bytesN_lt(n k:Nat):∀b∈bytesN n k,b<256:=by
 induction k generalizing n with
 |zero=>intro b hb;cases hb
 |succ k ih=>
  intro b hb
  rcases List.mem_cons.1 hb with rfl|hb
  ·omega
  exact ih _ b hb
theorem bytesN_val:∀(k n:Nat),n<256 ^ k->valN (bytesN n k)=n
 |0,n,h=>by simp at h;subst h;rfl
 |k+1,n,h=>by
  rw [Nat.pow_succ] at h
  simp only [bytesN,valN]
  rw [bytesN_val k (n / 256) (by omega)]
  omega
def sumN':List Nat->Nat
 |[]=>0
 |b::bs=>b+sumN' bs
theorem cnt_val:∀bs:List Nat,(∀b∈bs,b<256)->((List.range (8*bs.length)).filter λj=>(valN bs).testBit j).length=sumN' (bs.map λb=>p3 (p2 (p1 b)))
 |[],_=>rfl
 |b::bs,h=>by
  have Z:=h b List.mem_cons_self
  have ih:=cnt_val bs λx hx=>h x (List.mem_cons_of_mem _ hx)
  rw [List.length_cons,show 8*(bs.length+1)=8+8*bs.length by omega,List.range_add,List.filter_append,List.length_append,List.map_cons]
  simp only [sumN',valN]
  rw [←ih,(b1 ⟨b,Z⟩).2.2.2.2,List.filter_map,List.length_map]
  congr 2
  ·refine List.filter_congr λj M=>?_
   rw [Nat.testBit_two_pow_mul_add _ Z,if_pos<|List.mem_range.1 M]
  refine List.filter_congr λj M=>?_
  show (2 ^ 8*valN bs+b).testBit (8+j)=_
  rw [Nat.testBit_two_pow_mul_add _ Z,if_neg<|by omega,Nat.add_sub_cancel_left]
theorem fold4(h0:M<=8)(h1:Z<=8)(h2:d2<=8)(en:n=M+256*Z+65536*m2)(e1:m1=Z+256*d2+65536*m3)(h4:n4=n+m1) :
  n4=(M+Z)+256*(Z+d2)+65536*(m2+m3)/\n4 / 65536=m2+m3:=by omega
theorem fold5(ha:a<=16)(hb:b<=16)(M:c<65536)(h4:n4=a+256*b+65536*(c+65536*u))(Z:n5=n4+(c+65536*u)):n5=a+256*b+c+65536*(c+u)+4294967296*u:=by omega
theorem fold6{x s t:Nat}(M:x<65536)(hc:c<=5000)(hs:s<=5000)(hu:u=s+65536*t)(Z:n5=x+65536*(c+u)+4294967296*u):n5 / 4294967296=u+t:=by omega
theorem fold_sum{d0 d1 d5 d6 d7 m4 m5 m6:Nat}(h0:d0<=8)(h1:d1<=8)(h2:d2<=8)(h3:Z<=8)(h4:M<=8)(h5:d5<=8)(h6:d6<=8)(h7:d7<=8)
  (e6:m6=d6+256*d7) (e5:m5=d5+256*d6+65536*d7) (e4:m4=M+256*d5+65536*m6) (e3:m3=Z+256*M+65536*m5) (e2:m2=d2+256*Z+65536*m4) (e1:m1=d1+256*d2+65536*m3) (e0:n=d0+256*d1+65536*m2)
  (g4:n4=n+m1) (g5:n5=n4+n4 / 65536) (g6:n6=n5+n5 / 4294967296):n6 % 128=d0+d1+d2+Z+M+d5+d6+d7:=by
 obtain ⟨a1,a2⟩:=fold4 h0 h1 h2 e0 e1 g4
 have hc:m2+m3=((d2+Z)+256*(Z+M))+65536*(m4+m5):=by clear e0 e1 e4 e5 e6 g4 g5 g6 a1 a2;omega
 have hu:m4+m5=((M+d5)+256*(d5+d6))+65536*(m6+d7):=by clear e0 e1 e2 e3 e6 g4 g5 g6 a1 a2 hc;omega
 rw [a2,hc] at g5
 rw [hc] at a1
 have b1:=fold5 (by omega) (by omega) (by omega) a1 g5
 have b2:=fold6 (x:=d0+d1+256*(d1+d2)+((d2+Z)+256*(Z+M))) (by omega) (by omega) (by omega) hu b1
 rw [b2] at g6
 clear b2 a2 hc e0 e1 e2 e3 e4 e5 g4 g5 a1
 omega
theorem fold_all{bs:List Nat}(hl:bs.length=8)(hb:∀b∈bs,b<=8)(hn:n=valN bs)(Z:n4=n+n / 256)(M:n5=n4+n4 / 65536)(g6:n6=n5+n5 / 4294967296):n6 % 128=sumN' bs/\n6<18446744073709551616:=by
 match bs,hl with
 |[d0,d1,d2,d3,d4,d5,d6,d7],_=>
  have k0:=hb d0 (by simp)
  have k1:=hb d1 (by simp)
  have k2:=hb d2 (by simp)
  have k3:=hb d3 (by simp)
  have k4:=hb d4 (by simp)
  have k5:=hb d5 (by simp)
  have k6:=hb d6 (by simp)
  have k7:=hb d7 (by simp)
  obtain ⟨m6,e6⟩:∃m6,m6=d6+256*d7:=⟨_,rfl⟩
  obtain ⟨m5,e5⟩:∃m5,m5=d5+256*d6+65536*d7:=⟨_,rfl⟩
  obtain ⟨m4,e4⟩:∃m4,m4=d4+256*d5+65536*m6:=⟨_,rfl⟩
  obtain ⟨m3,e3⟩:∃m3,m3=d3+256*d4+65536*m5:=⟨_,rfl⟩
  obtain ⟨m2,e2⟩:∃m2,m2=d2+256*d3+65536*m4:=⟨_,rfl⟩
  obtain ⟨m1,e1⟩:∃m1,m1=d1+256*d2+65536*m3:=⟨_,rfl⟩
  have e0:n=d0+256*d1+65536*m2:=by rw [hn];simp only [valN];omega
  have ed:n / 256=m1:=by
   have:n=d0+256*m1:=by clear Z M g6;rw [hn];simp only [valN];omega
   clear e0 e1 e2 e3 e4 e5 e6 Z M g6 hn
   omega
  rw [ed] at Z
  refine ⟨?_,?_⟩
  ·rw [fold_sum k0 k1 k2 k3 k4 k5 k6 k7 e6 e5 e4 e3 e2 e1 e0 Z M g6];simp only [sumN'];omega
  have q6:m6<=2056:=by omega
  have q5:m5<=526344:=by omega
  have q4:m4<=134744072:=by clear Z M g6 hn e0 e1 e2 e3 ed;omega
  have q3:m3<=34494482440:=by clear Z M g6 hn e0 e1 e2 e4 ed;omega
  have q2:m2<=8830587504648:=by clear Z M g6 hn e0 e1 e3 e4 e5 e6 ed;omega
  have q1:m1<=2260630401189896:=by clear Z M g6 hn e0 e2 e4 e5 e6 ed;omega
  have q0:n<=578721382704613384:=by clear Z M g6 hn e1 e3 e4 e5 e6 ed;omega
  clear e0 e1 e2 e3 e4 e5 e6 hn ed
  omega
theorem valN_le:∀bs:List Nat,(∀b∈bs,b<=c)->valN bs<=repN c bs.length
 |[],_=>Nat.le_refl _
 |b::bs,h=>by
  have M:=valN_le bs λx Z=>h x (List.mem_cons_of_mem _ Z)
  have hb:=h b List.mem_cons_self
  rw [List.length_cons,repN_succ]
  simp only [valN]
  omega
end Go.Sl
namespace Go.Sl
open Go.Proofs
set_option maxRecDepth 4000
variable{m:BitVec 64}{bs:List Nat}
variable {κ:Ctx}{I:List Item}
theorem tz_small(m:BitVec 64):0<=tzTab.getD (tzIx m) 0/\tzTab.getD (tzIx m) 0<=64:=by
 have h:∀k:Fin 64,0<=tzTab.getD k.val 0/\tzTab.getD k.val 0<=64:=by decide+kernel
 exact h ⟨tzIx m,tzIx_lt m⟩
theorem Tz_ok(m:BitVec 64)(M:TabRd κ I 0 tzCells):eu prog κ 177 [U64 m] I (λr J=>r=e7 (tzB m)/\I=J):=by
 refine Ce1 Tryz.func177 C C ?_
 refine Ad<|Ga C<|Ac<|Ar<|Ad<|Gm C<|Gr (Runs.eqB (a:=m) (b:=0#64) C C)<|Ac<|A7 C (λZ=>?_)<|λZ=>?_
 ·exact Ad<|Ga C<|Ac<|Az<|Ao<|A1 C C I Ax ⟨by unfold tzB;rw [if_pos Z],rfl⟩
 exact Aw<|Ah<|Ad<|Gm C<|Gm C<|Gr (Runs.negB (a:=m) C)<|Gr (Ek (a:=m) (b:= -m) C C)<|Gr (Runs.mulB (a:=m &&& (-m)) (b:=285870213051353865#64) C C)<|Gr (Ff (a:=(m &&& (-m))*285870213051353865#64) C C om om)<|Gr (Runs.idxArrU (i:=tzIx m) Tryz.underlying241 ty5 C C<|tzIx_lt m)<|Gr (Runs.loadTab ty5 C (Bn M Ax)<|tzCells_at m)<|Gr (Runs.convI Eo Ci C<|by unfold InR;have:=tz_small m;omega)<|Ga C<|Ac<|Ap (S1 2)<|Az<|A1 C C I Ax ⟨by unfold tzB;rw [if_neg Z],rfl⟩
theorem Least_ok(m:BitVec 64)(Z:TabRd κ I 0 tzCells):eu prog κ 158 [U64 m] I (λr J=>r=e7 (tzB m)/\I=J):=by
 refine Ce1 Tryz.func158 C C ?_
 refine Ad<|Ga C<|Ac<|Ad<|Gm C<|G.e (Aj c_ C C<|Tz_ok m<|Bn Z Ax) ?_
 rintro _ _ ⟨_,_,⟨rfl,rfl⟩,rfl,rfl⟩
 exact Ga C<|Ac<|Az<|A1 C C I Ax ⟨rfl,rfl⟩
theorem MList_ok(m:BitVec 64)(hT:TabRd κ I 0 tzCells):eu prog κ 159 [U64 m] I (λr J=>∃a c,r = .slice a (eo m).length c/\J=vk 3 a c (eo m)::I):=by
 refine Ce1 Tryz.func159 C C ?_
 refine Ad<|Ga C<|Ac<|Ad<|Ga C<|Ac<|Ar<|A5<|B1 (σ:=(BitVec 64)×(Option Addr)×Nat×(List Int)) (λs=>([(0,U64<|s.1),(3,.slice s.2.1 s.2.2.2.length s.2.2.1)]:Env)) (λs=>vk 3 s.2.1 s.2.2.1 s.2.2.2::I) (λs=>(eo m=s.2.2.2++eo s.1)) (λs=>(eo s.1).length) (m,none,0,[]) (show (eo m=([]:List Int)++eo (m:BitVec 64)) from rfl) (Aa (C8 C<|by first|rfl|simp)<|Aa (C8 C<|by first|rfl|simp) Bp) (show Fit κ _ (vk 3 none 0 ([])::I) from (Cf _ _)) ?_
 rintro ⟨n,a,c,out⟩ hp
 dsimp only at hp ⊢
 have ho:=hp
 have aa:=congrArg List.length ho
 rw [List.length_append] at aa
 have ae:=Ex m
 refine Ar<|Ad<|Gm C<|Gr (Runs.neB (a:=n) (b:=0#64) C C)<|Ac<|A7 C (λZ=>?_)<|λZ=>?_
 ·refine Aw (Ah<|Ar<|A5<|Ay<|Gm C<|Gm C<|G.e (Aj c_ C C<|Tz_ok n<|Bn hT Ax) ?_)
  rintro _ _ ⟨_,_,⟨rfl,rfl⟩,rfl,rfl⟩
  refine Ge1 (Ce (α:=Int) (cs:=[_]) (xs:=[tzB n]) Af ef C C dc dc C C C C) λah=>?_
  refine Ge2 (B3 (α:=Int) (e:=3) (xs:=out) (ys:=([tzB n]:List Int)) Af ef C C C mm Bi lcn dc C<|λ_ _=>am) λad M=>?_
  exact Ga C<|Bj<|Am<|Ah<|Ay<|Gm C<|Gm C<|Gr (Runs.subB (a:=n) (b:=1#64) C C)<|Gr (Ek (a:=n) (b:=n - (1#64)) C C)<|Ga C<|Bj<|Cb ((n &&& (n - (1#64))),(ad),(M),(out++([tzB n]:List Int))) (by dsimp only;exact (by rw [ho,listB_step Z,List.append_assoc];rfl)) (hlt:=by (try dsimp only);exact (listB_less Z))
 refine Bt<|Aq<|Aq<|Bb<|Ah<|Ad<|Gm C<|Ga C<|Ac<|Az ?_
 have ab:n=0#64:=Classical.not_not.1 Z
 have hE:out=eo m:=by rw [ho,ab,Ea,List.append_nil]
 subst hE
 exact A1 C C (vk 3 a c (eo m)::I) Bg ⟨a,c,rfl,rfl⟩
theorem ones1_val(M:bs.length=8)(hb:∀b∈bs,b<256)(hm:m.toNat=valN bs):(ones1 m).toNat=valN (bs.map p1):=by
 unfold ones1
 have Z:valN (bs.map p1)<=repN 255 8:=by
  have:=valN_le (c:=255) (bs.map p1) λb h=>by obtain ⟨x,hx,rfl⟩:=List.mem_map.1 h;have:=(b1 ⟨x,hb x hx⟩).1;simp only at this;omega
  rwa [List.length_map,M] at this
 rw [BitVec.toNat_add,BitVec.toNat_and,BitVec.toNat_and,BitVec.toNat_ushiftRight,Nat.shiftRight_eq_div_pow,show 2 ^ (1:Int).toNat=2 from rfl,hm,show (6148914691236517205#64).toNat=repN 85 bs.length by rw [M];decide+kernel,step1 bs hb]
 exact Nat.mod_eq_of_lt<|Nat.lt_of_le_of_lt Z<|by decide+kernel
theorem ones2_val(M:bs.length=8)(hb:∀b∈bs,b<256/\p2 b<256)(hm:m.toNat=valN bs):(ones2 m).toNat=valN (bs.map p2):=by
 unfold ones2
 have Z:valN (bs.map p2)<=repN 255 8:=by
  have:=valN_le (c:=255) (bs.map p2) λb h=>by obtain ⟨x,hx,rfl⟩:=List.mem_map.1 h;have:=(hb x hx).2;omega
  rwa [List.length_map,M] at this
 rw [BitVec.toNat_add,BitVec.toNat_and,BitVec.toNat_and,BitVec.toNat_ushiftRight,Nat.shiftRight_eq_div_pow,show 2 ^ (2:Int).toNat=4 from rfl,hm,show (3689348814741910323#64).toNat=repN 51 bs.length by rw [M];decide+kernel,step2 bs λb h=>(hb b h).1]
 exact Nat.mod_eq_of_lt<|Nat.lt_of_le_of_lt Z<|by decide+kernel
theorem ones3_val(Z:bs.length=8)(M:∀b∈bs,b % 16<=4/\b / 16<=4)(hm:m.toNat=valN bs):(ones3 m).toNat=valN (bs.map p3):=by
 unfold ones3
 have aa:valN bs<=repN 68 8:=by
  have:=valN_le (c:=68) bs λb h=>by have:=M b h;omega
  rwa [Z] at this
 have hr:repN 68 8=4919131752989213764:=by decide+kernel
 rw [BitVec.toNat_and,BitVec.toNat_add,BitVec.toNat_ushiftRight,Nat.shiftRight_eq_div_pow,show 2 ^ (4:Int).toNat=16 from rfl,hm,show (1085102592571150095#64).toNat=repN 15 bs.length by rw [Z];decide+kernel,Nat.mod_eq_of_lt om,step3 bs M]
theorem ones_pop(m:BitVec 64):onesB m=((eo m).length:Int):=by
 unfold onesB
 have M:=bytesN_len m.toNat 8
 have hlt:=bytesN_lt m.toNat 8
 have hv:=bytesN_val 8 m.toNat (Nat.lt_of_lt_of_le m.isLt dc)
 generalize bytesN m.toNat 8=bs at M hlt hv
 have hb:=λb (h:b∈bs)=>b1 ⟨b,hlt b h⟩
 have e1:=ones1_val M hlt hv.symm
 have e2:=ones2_val (bs:=bs.map p1) (by rw [List.length_map,M]) (λb h=>by obtain ⟨x,hx,rfl⟩:=List.mem_map.1 h;have:=hb x hx;simp only at this;exact ⟨this.1,by omega⟩) e1
 have e3:=ones3_val (bs:=(bs.map p1).map p2) (by rw [List.length_map,List.length_map,M]) (λb h=>by obtain ⟨y,hy,rfl⟩:=List.mem_map.1 h;obtain ⟨x,hx,rfl⟩:=List.mem_map.1 hy;have:=hb x hx;simp only at this;exact ⟨this.2.1,this.2.2.1⟩) e2
 generalize ones3 (ones2<|ones1 m)=a at e3
 have hc:valN bs=m.toNat:=hv
 have Z:=cnt_val bs hlt
 obtain ⟨f1,f2⟩:=fold_all (n:=a.toNat) (n4:=a.toNat+a.toNat / 256) (n5:=a.toNat+a.toNat / 256+(a.toNat+a.toNat / 256) / 65536) (n6:=a.toNat+a.toNat / 256+(a.toNat+a.toNat / 256) / 65536+(a.toNat+a.toNat / 256+(a.toNat+a.toNat / 256) / 65536) / 4294967296)
  (bs:=((bs.map p1).map p2).map p3) (by rw [List.length_map,List.length_map,List.length_map,M]) (λb h=>by obtain ⟨z,hz,rfl⟩:=List.mem_map.1 h;obtain ⟨y,hy,rfl⟩:=List.mem_map.1 hz;obtain ⟨x,hx,rfl⟩:=List.mem_map.1 hy;have:=hb x hx;simp only at this;exact this.2.2.2.1) e3 rfl rfl rfl
 have g4:(ones4 a).toNat=a.toNat+a.toNat / 256:=by
  unfold ones4;rw [BitVec.toNat_add,BitVec.toNat_ushiftRight,Nat.shiftRight_eq_div_pow,show 2 ^ (8:Int).toNat=256 from rfl];exact Nat.mod_eq_of_lt om
 have g5:(ones5<|ones4 a).toNat=a.toNat+a.toNat / 256+(a.toNat+a.toNat / 256) / 65536:=by
  unfold ones5;rw [BitVec.toNat_add,BitVec.toNat_ushiftRight,Nat.shiftRight_eq_div_pow,show 2 ^ (16:Int).toNat=65536 from rfl,g4];exact Nat.mod_eq_of_lt om
 have g6:(ones6<|ones5<|ones4 a).toNat=a.toNat+a.toNat / 256+(a.toNat+a.toNat / 256) / 65536+(a.toNat+a.toNat / 256+(a.toNat+a.toNat / 256) / 65536) / 4294967296:=by
  unfold ones6;rw [BitVec.toNat_add,BitVec.toNat_ushiftRight,Nat.shiftRight_eq_div_pow,show 2 ^ (32:Int).toNat=4294967296 from rfl,g5];exact Nat.mod_eq_of_lt om
 have hL:(eo m).length=sumN' (((bs.map p1).map p2).map p3):=by
  unfold eo listN
  rw [List.length_map,List.map_map,List.map_map,show (λi=>m.getLsbD i)=λj=>(valN bs).testBit j from by funext j;rw [hc];rfl]
  rw [M] at Z
  exact Z
 rw [g6,hL,←f1]
 omega
def meetL(xs ys:List Int):List Int:=(ofL xs).filter λx=>decide (x∈ys)
theorem mem_meetL{xs ys:List Int}{x:Int}:x∈meetL xs ys↔x∈xs/\x∈ys:=by simp [meetL,mem_ofL]
end Go.Sl
namespace Go.Sl
end Go.Sl
namespace Go.Sl
end Go.Sl
namespace Go.Sl
section
variable {α:Type}[Enc α]{κ:Ctx}{I:List Item}
theorem Fit.takevc{e:TypeId}{a:Option Addr}{n c k:Nat}{xs:List α}(hn:n=xs.length):Fit κ (vc e (.slice a n c) xs::I) (vc e (.slice a (xs.take k).length c) (xs.take k)::I):=by
 subst hn
 refine Fit.upd (At.head _ _ _) λw h=>⟨?_,λj ⟨o,m,c',hv,Z⟩=>?_⟩
 ·obtain ⟨a',cap,hv,h1,h2,h3,h4⟩:=h
  cases hv
  refine ⟨a,c,rfl,cells_length _,by rw [List.length_take];omega,h3,λZ=>?_⟩
  obtain ⟨b,off,M,ha,hb,h5,h6⟩:=h4 Z
  refine ⟨b,off,M,ha,hb,h5,λj u hj=>h6 j u ?_⟩
  have e1:cells xs=cells (xs.take k)++cells (xs.drop k):=by rw [←cells_append,List.take_append_drop]
  rw [e1,List.getElem?_append_left (List.getElem?_eq_some_iff.1 hj).1];exact hj
 cases hv;exact ⟨o,_,c,rfl,Z⟩
def ownR(e:TypeId)(rs:List (RowG α)):List Item:=rs.map λr=>vc e (.slice r.a r.xs.length r.c) r.xs
end
end Go.Sl
namespace Go.Sl
open Go.Proofs
set_option maxRecDepth 4000
variable{es:List Pt}{nd v:Int}{va:Value}
variable {κ:Ctx}{I:List Item}
def rowG(nd:Int)(es:List Pt)(v:Int):BitVec 64:=if v<0\/((ek nd es).length:Int)<=v\/checkG nd es≠0 then 0#64 else e_ (ek nd es) v
def nbL(es:List Pt)(v:Int):List Int:=es.flatMap λe=>(if e.u=v then [e.v] else [])++(if e.v=v then [e.u] else [])
theorem nbL_take{k:Nat}(h:k<es.length)(v:Int):nbL (es.take (k+1)) v=nbL (es.take k) v++((if (e_ es k).u=v then [(e_ es k).v] else [])++(if (e_ es k).v=v then [(e_ es k).u] else [])):=by
 unfold nbL;rw [Cj es k h,List.flatMap_append];simp
theorem mem_nbL{x:Int}:x∈nbL es v↔(⟨v,x⟩:Pt)∈es\/(⟨x,v⟩:Pt)∈es:=by
 unfold nbL
 rw [List.mem_flatMap]
 constructor
 ·rintro ⟨⟨a,b⟩,Z,M⟩
  rcases List.mem_append.1 M with h|h
  ·split at h
   ·rename_i h1;simp only [List.mem_singleton] at h;simp only at h1;subst h h1;exact .inl Z
   simp at h
  split at h
  ·rename_i h1;simp only [List.mem_singleton] at h;simp only at h1;subst h h1;exact .inr Z
  simp at h
 rintro (h|h)
 ·exact ⟨_,h,by simp⟩
 exact ⟨_,h,by simp⟩
def nbG(nd:Int)(es:List Pt)(v:Int):List Int:=if checkG nd es≠0 then [] else ofL (nbL es v)
theorem nb_eq(nd:Int)(es:List Pt)(v:Int):eo (rowG nd es v)=nbG nd es v:=by
 by_cases hc:checkG nd es≠0
 ·unfold rowG nbG;rw [if_pos (.inr<|.inr hc),if_pos hc,Ea]
 have Z:=checkG_ok.1 (Classical.not_not.1 hc)
 have hr:=Z.rng
 have hl:=Z.rows.len
 unfold nbG
 rw [if_neg hc]
 refine intLin.uniq (listB_asc _) (ofL_asc _) λx=>?_
 rw [D5,mem_ofL,mem_nbL]
 by_cases hv:v<0\/((ek nd es).length:Int)<=v
 ·have M:rowG nd es v=0#64:=if_pos om
  rw [M]
  simp only [BitVec.getLsbD_zero,Bool.false_eq_true,and_false,false_iff]
  rintro (h|h)
  ·have:=Z.edge _ h;simp only at this;omega
  have:=Z.edge _ h;simp only at this;omega
 have M:rowG nd es v=e_ (ek nd es) v:=if_neg om
 rw [M]
 by_cases hx:0<=x/\x<64
 ·rw [Z.rows.bit v x om om hx.1 hx.2,decide_eq_true_eq]
  exact ⟨λh=>h.2,λh=>⟨hx.1,h⟩⟩
 constructor
 ·rintro ⟨h1,h2⟩
  rw [BitVec.getLsbD_of_ge _ _ om] at h2
  exact absurd h2 dc
 rintro (h|h)
 ·have:=Z.edge _ h;simp only at this;omega
 have:=Z.edge _ h;simp only at this;omega
theorem nbG_len(nd:Int)(es:List Pt)(v:Int):(nbG nd es v).length<=64:=by rw [←nb_eq];exact Ex _
theorem listB_and(a b:BitVec 64):eo (a &&& b)=meetL (eo a) (eo b):=by
 refine intLin.uniq (listB_asc _) ((ofL_asc _).sublist List.filter_sublist) λx=>?_
 rw [mem_meetL,D5,D5,D5,BitVec.getLsbD_and,Bool.and_eq_true]
 exact ⟨λh=>⟨⟨h.1,h.2.1⟩,h.1,h.2.2⟩,λh=>⟨h.1.1,h.1.2,h.2.2⟩⟩
theorem degree_eq(nd:Int)(es:List Pt)(v:Int):onesB (rowG nd es v)=((nbG nd es v).length:Int):=by rw [ones_pop,nb_eq]
def commonG(nd:Int)(es:List Pt)(u v:Int):List Int:=if u=v then [] else meetL (nbG nd es u) (nbG nd es v)
theorem common_eq{u:Int}(h:u≠v):eo (rowG nd es u &&& rowG nd es v)=commonG nd es u v:=by
 unfold commonG;rw [if_neg h,listB_and,nb_eq,nb_eq]
def FindP(nd:Int)(es:List Pt)(u v y:Int):Prop:=(checkG nd es=0/\∃j:Nat,y=(j:Int)/\j<es.length/\e_ es j=edgeP u v)\/(y = -1/\(checkG nd es≠0\/edgeP u v∉es))
theorem all_tab:∀n:Fin 65,∀i:Fin 64,(allB (n.val:Int)).getLsbD i.val=decide (i.val<n.val):=by decide+kernel
theorem getLsb_allB{n:Int}(Z:0<=n)(M:n<=64){i:Nat}(hi:i<64):(allB n).getLsbD i=decide ((i:Int)<n):=by
 have:=all_tab ⟨n.toNat,by omega⟩ ⟨i,hi⟩
 simp only [show ((n.toNat:Nat):Int)=n by omega] at this
 rw [this,decide_eq_decide];omega
theorem GRowG_ok(hl:Sl κ I va es)(v:Int):eu prog κ 165 [.agg #[e7 nd,va],e7 v] I (λr J=>r=U64 (rowG nd es v)/\I=J):=by
 refine Ce2 Tryz.func165 C C ?_
 refine Ad<|Ge1 (Bd (cs:=[_,_]) C C C) λb1=>Ga C<|Ac<|Ad<|Gl2 ty38 ?_
 refine G.e (Aj c_ C C<|MRows_ok (nd:=nd)<|A8 hl) ?_
 rintro _ _ ⟨_,_,⟨ae,ad,rfl,rfl⟩,rfl,rfl⟩
 have Z:=rowsB_len nd es
 refine Ga C<|Ac<|Ar<|Ad<|Gm C<|Gr (A9 C C)<|Gm C<|Bh (d:=10) C (λM=>?_)<|λM=>?_
 ·exact eb<|eb<|eb<|eb<|Gr (Av C C)<|Gm C<|eb<|eb<|eb<|Gr (Av C C)<|Ac<|Ap (S3 20 5 1)<|Cu C<|Ad<|Ga C<|Ac<|Az<|Ao<|A1 C C I Ax ⟨by rw [show rowG nd es v=0#64 from if_pos om];rfl,rfl⟩
 refine e9 (Ai C)<|e9 (Ai C)<|e9 (Bk B8 C)<|e9 (Cv C C)<|Gr (Au C C)<|Gm C<|Bh (d:=16) C (λab=>?_)<|λab=>?_
 ·exact eb<|eb<|eb<|Gr (Av C C)<|Ac<|Ap (S3 20 5 1)<|Cu C<|Ad<|Ga C<|Ac<|Az<|Ao<|A1 C C I Ax ⟨by rw [show rowG nd es v=0#64 from if_pos om];rfl,rfl⟩
 refine e9 (Bc (vs:=[_,_]) ty38) ?_
 refine Dx (Cq C C C) (Aj c_ C C<|CheckGen_ok<|A8 hl) ?_
 rintro _ _ ⟨_,_,⟨rfl,rfl⟩,rfl,rfl⟩
 refine e9 (Be C C)<|Gr (Au C C)<|Ac<|Ap (S3 20 5 1)<|A7 C (λaa=>?_)<|λaa=>?_
 ·exact Ad<|Ga C<|Ac<|Az<|Ao<|A1 C C I Ax ⟨by rw [show rowG nd es v=0#64 from if_pos om];rfl,rfl⟩
 exact Aw<|Ah<|Ad<|Gm C<|Gm C<|Gr (A3 (α:=(BitVec 64)) (xs:=ek nd es) B8 ty207 C C Bi om om)<|Gr (B9 (α:=(BitVec 64)) (xs:=ek nd es) (u:=U64 ((e_ (ek nd es) v))) ty207 C Bi om om C)<|Ga C<|Ac<|Az<|A1 C C I Ax ⟨by rw [show rowG nd es v=e_ (ek nd es) v from if_neg om],rfl⟩
theorem NeighG_ok(hl:Sl κ I va es)(v:Int)(hT:TabRd κ I 0 tzCells):eu prog κ 164 [.agg #[e7 nd,va],e7 v] I (λr J=>∃a c,r = .slice a (nbG nd es v).length c/\J=vk 3 a c (nbG nd es v)::I):=by
 refine Ce2 Tryz.func164 C C ?_
 refine Ad<|Ge1 (Bd (cs:=[_,_]) C C C) λb1=>Ga C<|Ac<|Ad<|Gl2 ty38 ?_
 refine Gm C<|G.e (Aj c_ C C<|GRowG_ok (nd:=nd) (A8 hl) v) ?_
 rintro _ _ ⟨_,_,⟨rfl,rfl⟩,rfl,rfl⟩
 refine Gc2 (Aj c_ C C<|MList_ok (rowG nd es v)<|Bn hT Ax) λM Z=>?_
 refine Ga C<|Ac<|Az ?_
 have hX:(nbG nd es v)=_:=(nb_eq nd es v).symm
 exact A1 C C (vk 3 M Z (nbG nd es v)::I) (by unfold vk;rw [hX];exact Bg) ⟨M,Z,by rw [hX],rfl⟩
theorem DegreeG_ok(Z:Sl κ I va es)(v:Int):eu prog κ 136 [.agg #[e7 nd,va],e7 v] I (λr J=>r=e7 ((((nbG nd es v).length:Nat)):Int)/\I=J):=by
 refine Ce2 Tryz.func136 C C ?_
 refine Ad<|Ge1 (Bd (cs:=[_,_]) C C C) λb1=>Ga C<|Ac<|Ad<|Gl2 ty38 ?_
 refine Gm C<|G.e (Aj c_ C C<|GRowG_ok (nd:=nd) (A8 Z) v) ?_
 rintro _ _ ⟨_,_,⟨rfl,rfl⟩,rfl,rfl⟩
 refine Gc0 (Aj c_ C C<|MCount_ok<|rowG nd es v) ?_
 exact Ga C<|Ac<|Az<|A1 C C I Ax ⟨by rw [degree_eq],rfl⟩
theorem CommonG_ok(hl:Sl κ I va es)(u v:Int)(hT:TabRd κ I 0 tzCells):eu prog κ 178 [.agg #[e7 nd,va],e7 u,e7 v] I (λr J=>∃a c,r = .slice a (commonG nd es u v).length c/\J=vk 3 a c (commonG nd es u v)::I):=by
 refine Ce3 Tryz.func178 C C ?_
 refine Ad<|Ge1 (Bd (cs:=[_,_]) C C C) λb1=>Ga C<|Ac<|Ar<|Ad<|Gm C<|Gm C<|Gr (Br C C)<|Ac<|A7 C (λc9=>?_)<|λc9=>?_
 ·refine Ad (Ga C<|Ac<|Az<|Ao ?_)
  have M:(commonG nd es u v)=[]:=if_pos c9
  exact A1 C C (vk 3 none 0 (commonG nd es u v)::I) (by unfold vk;rw [M];exact Co (show Fit κ _ I from Ax)<|Cf (α:=Int) _ _) ⟨none,0,by rw [M];rfl,rfl⟩
 refine Aw<|Ah<|Ar<|Bs mixed<|Cc (e8 b1 [e7 nd,va] 38::I) 9<|Dr 0 C (Bc (vs:=[_,_]) ty38) ?_
 refine Dr 1 C (Ai C)<|Dr 3 C (Bc (vs:=[_,_]) ty38) ?_
 refine Dr 4 C (Ai C)<|Ds1 2<|Se C (Aj c_ C C<|GRowG_ok (nd:=nd) (A8 hl) u) ?_
 rintro _ _ ⟨_,_,⟨rfl,rfl⟩,rfl,rfl⟩
 refine ⟨Bg,?_⟩
 refine Ds1 5<|Se C (Aj c_ C C<|GRowG_ok (nd:=nd) (A8 hl) v) ?_
 rintro _ _ ⟨_,_,⟨rfl,rfl⟩,rfl,rfl⟩
 refine ⟨Bg,?_⟩
 refine Dr 6 C (Ek (a:=rowG nd es u) (b:=rowG nd es v) C C)<|Ds1 7<|Sc2 C (Aj c_ C C<|MList_ok ((rowG nd es u) &&& (rowG nd es v))<|Bn hT Ax) λaa Z=>?_
 refine Dr 8 C (Bf C)<|Dz<|Ah<|Ap (S1 6)<|Az ?_
 have M:(commonG nd es u v)=_:=(common_eq c9).symm
 exact A1 C C (vk 3 aa Z (commonG nd es u v)::I) (by unfold vk;rw [M];exact Bg) ⟨aa,Z,by rw [M],rfl⟩
theorem FindG_ok(hl:Sl κ I va es)(u v:Int)(hb:es.length<=1000000000):eu prog κ 151 [.agg #[e7 nd,va],e7 u,e7 v] I (λr J=>∃y:Int,r=e7 y/\FindP nd es u v y/\I=J):=by
 refine Ce3 Tryz.func151 C C ?_
 refine Ad<|Ge1 (Bd (cs:=[_,_]) C C C) λb1=>Ga C<|Ac<|Ar<|Ad<|Gl2 ty38 ?_
 refine Gm C<|Gm C<|G.e (Aj c_ C C<|Place_ok (A8 hl) u v om) ?_
 rintro _ _ ⟨_,_,⟨i2,q3,rfl,aa,rfl⟩,rfl,rfl⟩
 refine Gm C<|Gr (Ak C C)<|Gr (Ak C C)<|Ga C<|Ga C<|Ac<|Ap (S3 8 7 3)<|Ad<|Gm C<|Gm C<|Bh (d:=17) C (λZ=>?_)<|λZ=>?_
 ·refine e9 (Bc (vs:=[_,_]) ty38) ?_
  refine Dx (Cq C C C) (Aj c_ C C<|CheckGen_ok<|A8 hl) ?_
  rintro _ _ ⟨_,_,⟨rfl,rfl⟩,rfl,rfl⟩
  refine e9 (Br C C)<|Gr (Av C C)<|Ac<|A7 C (λM=>?_)<|λM=>?_
  ·exact Ad<|Gm C<|Ga C<|Ac<|Az<|Ao<|A1 C C I Ax ⟨_,rfl,.inl ⟨M,i2,rfl,Z.1,Z.2⟩,rfl⟩
  refine Aw<|Ah<|Ad<|Ga C<|Ac<|Az ?_
  have hn:checkG nd es≠0\/edgeP u v∉es:=(Decidable.em<|checkG nd es=0).elim (λhc=> .inr λhm=>by first|exact M hc|exact Z ((aa.mem (checkG_ok.1 hc).asc).2 hm)) .inl
  exact A1 C C I Ax ⟨_,rfl,.inr ⟨rfl,hn⟩,rfl⟩
 refine eb<|eb<|eb<|Gr (Au C C)<|Ac<|Dg C<|Aw<|Ah<|Ad<|Ga C<|Ac<|Az ?_
 have hn:checkG nd es≠0\/edgeP u v∉es:=(Decidable.em<|checkG nd es=0).elim (λhc=> .inr λhm=>by first|exact M hc|exact Z ((aa.mem (checkG_ok.1 hc).asc).2 hm)) .inl
 exact A1 C C I Ax ⟨_,rfl,.inr ⟨rfl,hn⟩,rfl⟩
end Go.Sl
namespace Go.Sl
section
variable {P:Program}{κ:Ctx}{N:Frm}{Q:Exit->Act->World->Prop}{L:Env}{I:List Item}
theorem wp_scope_ghost{c rest:Code}{a:Act}{w:World}(l:Nat){σ:Type}(R:σ->Act->World->Prop)(μ:σ->Nat)(hf:findLabel c l=some rest)
  (first:c.wp P (Exit.jump l (λa w=>∃s,R s a w) Q) a w)
  (pass:∀s a w,R s a w->rest.wp P (Exit.jump l (λa' w'=>∃s',R s' a' w'/\μ s'<μ s) Q) a w):(Code.scope c).wp P Q a w:=by
 intro b k cs
 have hg:gotoIn l (.inScope c::k)=some (.code rest :: .inScope c::k):=by simp [gotoIn,hf]
 have ab:∀n s a w,μ s=n->R s a w->∃e a' w',Q e a' w'/\Arrives P (lone (b.at a<|.code rest :: .inScope c::k) cs w) b k cs e a' w':=by
  intro n
  induction n using Nat.strongRecOn with
  |_ n ih=>
   intro s a w hn hR
   obtain ⟨e,a₁,w₁,hq,Z⟩:=pass s a w hR b (.inScope c::k) cs
   cases e with
   |normal=>exact ⟨.normal,a₁,w₁,hq,Steps.trans Z<|.one step_inScope⟩
   |exit id=>exact ⟨.exit id,a₁,w₁,hq,λk' hk=>Z k'<|by simp [exitTo,hk]⟩
   |goto l'=>
    obtain ⟨rfl,s',ad,hlt⟩:=hq
    obtain ⟨e₂,a₂,w₂,aa,M⟩:=ih _ (by omega) s' a₁ w₁ rfl ad
    exact ⟨e₂,a₂,w₂,aa,.of_steps (Z _ hg) M⟩
   |ret=>exact ⟨_,a₁,w₁,hq,Z⟩
   |panic ch=>exact ⟨_,a₁,w₁,hq,Z⟩
   |outgrown=>exact ⟨_,a₁,w₁,hq,Z⟩
 obtain ⟨e,a₁,w₁,hq,Z⟩:=first b (.inScope c::k) cs
 cases e with
 |normal=>exact ⟨.normal,a₁,w₁,hq,.head step_scope<|Steps.trans Z<|.one step_inScope⟩
 |exit id=>exact ⟨.exit id,a₁,w₁,hq,λk' hk=> .head step_scope<|Z k'<|by simp [exitTo,hk]⟩
 |goto l'=>
  obtain ⟨rfl,s,hR⟩:=hq
  obtain ⟨e₂,a₂,w₂,aa,M⟩:=ab _ s a₁ w₁ rfl hR
  exact ⟨e₂,a₂,w₂,aa,.of_steps (.head step_scope<|Z _ hg) M⟩
 |ret=>exact ⟨_,a₁,w₁,hq,.of_steps (.one step_scope) Z⟩
 |panic ch=>exact ⟨_,a₁,w₁,hq,.of_steps (.one step_scope) Z⟩
 |outgrown=>exact ⟨_,a₁,w₁,hq,.of_steps (.one step_scope) Z⟩
theorem V.jump_ret{l:Nat}{K:Act->World->Prop}(h:V κ N Q .ret L I):V κ N (Exit.jump l K Q) .ret L I:=h
end
end Go.Sl
namespace Go.Sl
section
variable {P:Program}{κ:Ctx}{N:Frm}{Q:Exit->Act->World->Prop}{L:Env}{I:List Item}
theorem W.scope0{c rest:Code}{l:Nat}(Z:findLabel c l=some rest)(h:W P κ N c (Exit.jump l (λ_ _=>∃s:Unit,False) Q) L I):W P κ N (.scope c) Q L I:=λa w M hs=>
 wp_scope_ghost l (fun (_:Unit) _ _=>False) (λ_=>0) Z (h a w M hs) λ_ _ _ hR=>hR.elim
theorem W.label{l:Nat}(h:V κ N Q .normal L I):W P κ N (.label l) Q L I:=λa w Z hs=>wp_label (h a w Z hs)
end
end Go.Sl
