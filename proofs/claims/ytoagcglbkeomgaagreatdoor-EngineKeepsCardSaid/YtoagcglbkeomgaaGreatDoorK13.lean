/- A part of the proofs of statements of this seat: contracts of functions, and the plain laws that they lean on. No conditions. -/
import Derived.Test.YtoagcglbkeomgaaGreatDoorK12
import Derived.OrdersIn
set_option linter.unusedVariables false
set_option linter.unusedSimpArgs false
set_option linter.unusedSectionVars false
namespace Go.Sl
end Go.Sl
namespace Go.Sl
open Go.Proofs
set_option maxRecDepth 4000
end Go.Sl
namespace Go.Sl
end Go.Sl
namespace Go.Sl
open Go.Proofs
set_option maxRecDepth 4000
variable{b:Nat}{lv:Value}{ls:List Int}{i:Int}
variable {κ:Ctx}{I:List Item}
theorem MkWindowV_base(hl:∀q,Sl κ (deck b lv q::I) lv ls)(h0:0<=i)   :
    eu Tryz.prog κ 15 [(pt b)] (e8 b [lv,e7 i] 85::I) (λr J=>∃y:Int×Int×Int×Int,((r = .agg #[e7 y.1,e7 y.2.1,e7 y.2.2.1]/\checkW y.1 y.2.1 y.2.2.1=0)/\0<=y.2.2.2)/\J=[]++deck b lv y.2.2.2::I):=by
 refine Ce1 Tryz.func15 C C ?_
 refine Af<|Ge1 (A3 ty29 C) λb1=>Ac<|Aq<|Af<|Gm C<|G.e (Ak c_ C C<|Next_ok (by repeat (first|exact AtF.head _ _|apply AtF.tail)) (Bz (hl _) Ay) om om) ?_
 rintro _ _ ⟨_,_,⟨Z,i3,rfl,ab,hi3,rfl⟩,rfl,rfl⟩
 show G Tryz.prog κ _ _ _ _ ([(4,e7 Z),(3,pt b),(2,pt b1),(0,pt b)]:Env) (e8 b1 [e7 0,e7 0,e7 0] 29::e8 b [lv,e7 i3] 85::I)
 refine Ac<|Aw<|Af<|Gr (Bw C C)<|Ga C<|Ac<|A5 C (λc5=>?_)<|λc5=>?_
 ·refine Af (Gm C<|G.e (Ak c_ C C<|Next_ok (by repeat (first|exact AtF.head _ _|apply AtF.tail)) (Bz (hl _) Ay) om om) ?_)
  rintro _ _ ⟨_,_,⟨x4,i5,rfl,ah,ad,rfl⟩,rfl,rfl⟩
  show G Tryz.prog κ _ _ _ _ ([(8,e7 x4),(7,pt b),(5,.bool<|decide<|Z=1),(6,.bool<|decide<|Z=1),(4,e7 Z),(3,pt b),(2,pt b1),(0,pt b)]:Env) (e8 b1 [e7 0,e7 0,e7 0] 29::e8 b [lv,e7 i5] 85::I)
  refine Gr (Rad C C)<|Gr (Bp (cells:=[_,_,_]) ty29 Ey pl29 C C)<|Ge0 (Dc ty29) ?_
  exact Ac<|Az<|A7<|Ap<|E6 C ty29 C mm C (e8 b [lv,e7 i5] 85::I) Bc ⟨(2,1+x4,0,i5),⟨⟨rfl,by show checkW 2 (1+x4) (0)=0;unfold checkW;rw [if_neg om,if_neg om]⟩,by show 0<=i5;omega⟩,rfl⟩
 refine Af<|Gr (Bw C C)<|Ga C<|Ac<|A5 C (λc11=>?_)<|λc11=>?_
 ·refine Af (Gm C<|G.e (Ak c_ C C<|Next_ok (by repeat (first|exact AtF.head _ _|apply AtF.tail)) (Bz (hl _) Ay) om om) ?_)
  rintro _ _ ⟨_,_,⟨x6,M,rfl,aa,ae,rfl⟩,rfl,rfl⟩
  show G Tryz.prog κ _ _ _ _ ([(14,e7 x6),(13,pt b),(11,.bool<|decide<|Z=2),(12,.bool<|decide<|Z=2),(5,.bool<|decide<|Z=1),(6,.bool<|decide<|Z=1),(4,e7 Z),(3,pt b),(2,pt b1),(0,pt b)]:Env) (e8 b1 [e7 0,e7 0,e7 0] 29::e8 b [lv,e7 M] 85::I)
  refine Gr (Bp (cells:=[_,_,_]) ty29 Ey pl29 C C)<|Ge0 (Dc ty29) ?_
  exact Ac<|Az<|A7<|Ap<|E6 C ty29 C mm C (e8 b [lv,e7 M] 85::I) Bc ⟨(3,0,x6,M),⟨⟨rfl,by show checkW 3 0 (x6)=0;unfold checkW;rw [if_neg om,if_neg om]⟩,by show 0<=M;omega⟩,rfl⟩
 refine Av<|Aj<|Ah<|Af<|Gr (Bp (cells:=[_,_,_]) ty29 Ey pl29 C C)<|Ge0 (Dc ty29) ?_
 exact Ac<|Az<|E6 C ty29 C mm C (e8 b [lv,e7 i3] 85::I) Bc ⟨(1,0,0,i3),⟨⟨rfl,by show checkW 1 0 (0)=0;unfold checkW;rw [if_neg om,if_neg om]⟩,by show 0<=i3;omega⟩,rfl⟩
theorem MkWindowV_at{F:Item->List Item}(M:AtF I (deck b lv i) F)(hl:∀q,Sl κ (F (deck b lv q)) lv ls)(h0:0<=i)   :
  eu Tryz.prog κ 15 [(pt b)] I λr J=>∃y:Int×Int×Int×Int,((r = .agg #[e7 y.1,e7 y.2.1,e7 y.2.2.1]/\checkW y.1 y.2.1 y.2.2.1=0)/\0<=y.2.2.2)/\J=[]++F (deck b lv y.2.2.2):=
 eu.at (Post:=λr (y:Int×Int×Int×Int)=>(r = .agg #[e7 y.1,e7 y.2.1,e7 y.2.2.1]/\checkW y.1 y.2.1 y.2.2.1=0)/\0<=y.2.2.2) (Z:=λy:Int×Int×Int×Int=>[]) (X:=λy:Int×Int×Int×Int=>deck b lv y.2.2.2) M λJ _ hF=>MkWindowV_base (λq=>(hl q).fit (hF _)) h0  
theorem Graph5_ok{κ:Ctx}{I:List Item}{nd:Int}{va:Value}{xs:List Lk}(M:Sl κ I va xs)(hv:checkS nd xs=0)(ao:xs.length<=100000):eu Tryz.prog κ 18 [.agg #[e7 nd,va]] I (λr J=>∃a c,r = .tuple #[.agg #[e7 nd,.slice a (edgesK xs).length c],e7 0]/\J=vk 105 a c (edgesK xs)::I):=by
 refine B8 M.le λak=>?_
 refine Ce1 Tryz.func18 C C ?_
 refine Af<|Ge1 (Bg (cs:=[_,_]) C C C) λb1=>Ge1 (A3 ty38 C) λb2=>Ga C<|Ac<|Aq<|Af<|Gl2 ty35 ?_
 refine Gc0 (Ak c_ C C<|CheckS5_ok (nd:=nd)<|A8 M) ?_
 refine Ga C<|Ac<|Af<|Gm C<|Gr (Bo C C)<|Ac<|A5 C (λc11=>?_)<|λc11=>?_
 ·exact absurd hv c11
 refine Av<|Ah<|Af<|Gf fld35_0 C<|Gl ef ?_
 refine Gr (Bp (cells:=[_,_]) ty38 Cy pl38 C C)<|Ge1 (A3 ty38 C) λb3=>Ge0 (Cz ty38) ?_
 refine Ac<|Aq<|Af<|Gf fld35_1 C<|Gl ty33 ?_
 refine Gr (B9 (α:=Lk) (xs:=xs) A9 C<|A8 M)<|Gm C<|Ac<|Ao (S5 20 19 18 5 2 C C C C C)<|Aw<|Bu (σ:=Nat×(Option Addr)×Nat×(List Pt)) (λs=>([(2,pt b2),(5,pt b3),(18,va),(19,e7 ((xs.length:Nat):Int)),(20,e7 ((s.1:Nat):Int))]:Env)) (λs=>vk 105 s.2.1 s.2.2.1 s.2.2.2::e8 b3 [e7 nd,.slice s.2.1 s.2.2.2.length s.2.2.1] 38::e8 b2 [e7 0,.slice none 0 0] 38::e8 b1 [e7 nd,va] 35::I) (λs=>(s.1<=xs.length)/\(s.2.2.2=edgesK (xs.take s.1))) (λs=>xs.length - s.1) (0,none,0,[]) (show ((0:Nat)<=xs.length)/\(([]:List Pt)=edgesK (xs.take (0:Nat))) from ⟨om,rfl⟩) (Aa C<|Aa C<|Aa C<|Aa C<|Aa B2 Bi) (show Fit κ _ (vk 105 none 0 ([])::e8 b3 [e7 nd,.slice none ([]).length 0] 38::e8 b2 [e7 0,.slice none 0 0] 38::e8 b1 [e7 nd,va] 35::I) from (Cq (Cb (α:=Pt) _ _) Bl)) ?_
 rintro ⟨k,a,c,out⟩ hp
 dsimp only at hp ⊢
 obtain ⟨hk,ho⟩:=hp
 have aq:out.length=k:=by rw [ho,edgesK_len,List.length_take];omega
 refine Af<|Gr (A4 C C)<|Ac<|Aq<|A5 C (λad=>?_)<|λad=>?_
 ·refine Av (Ah<|Aq<|Aw<|Af<|Gr (Ax (α:=Lk) (xs:=xs) A9 ty82 C C (A8 M) om om)<|Gr (Bx (α:=Lk) (xs:=xs) ty82 C (A8 M) om om)<|Ge1 (A3 ty82 C) λb4=>Ge0 (Es6_6 ty82) ?_)
  refine Ac<|Bq mixed<|Ca (e8 b4 [e7 ((e_ xs k).u),e7<|(e_ xs k).v,e7<|(e_ xs k).w,e7<|(e_ xs k).lb,e7<|(e_ xs k).sg,e7<|(e_ xs k).tm] 82::e8 b2 [e7 0,.slice none 0 0] 38::e8 b1 [e7 nd,va] 35::I) 8<|Dr 0 C (Ad fld38_1 C)<|Dr 2 C (Be (vs:=[_,_,_,_,_,_]) ty82) ?_
  refine Dt (rs:=[1,3]) kr C C<|E4 ?_<|Ei ?_
  ·refine Sr C (Bb ty36) Bc ?_
   refine Ds1 3<|Sc0 C (Ak c_ C C<|Edge5_ok<|e_ xs k) ?_
   refine Ds1 4<|Se1 C (Cf (α:=Pt) (cs:=[_,_]) (xs:=[⟨(e_ xs k).p.u,(e_ xs k).p.v⟩]) Au ty105 C C dc dc C C C C) λap=>?_
   refine Ds1 5<|Se2 C (Cg (α:=Pt) (e:=105) (xs:=out) (ys:=([⟨(e_ xs k).p.u,(e_ xs k).p.v⟩]:List Pt)) Au ty105 C C C mm Bf lcn dc C<|λ_ _=>am) λae ah=>?_
   refine Dr 6 C (Ad fld38_1 C)<|Ds1 7<|Se0 C (Es2_1 ty36) ?_
   exact Dz<|Aj<|Ah<|Ao (S5 2 5 18 19 20 C C C C C)<|Ar<|Gr (Rad C C)<|Gm C<|Bj<|B3 ((k+1),(ae),(ah),(out++([⟨(e_ xs k).p.u,(e_ xs k).p.v⟩]:List Pt)))<|by dsimp only;exact ⟨om,(by rw [edgesK_take om,←ho];rfl)⟩
  refine Sc0 C (Ak c_ C C<|Edge5_ok<|e_ xs k) ?_
  refine Dt (rs:=[1,4]) kr C C<|E4 ?_<|Ei ?_
  ·refine Sr C (Bb ty36) Bc ?_
   refine Ds1 4<|Se1 C (Cf (α:=Pt) (cs:=[_,_]) (xs:=[⟨(e_ xs k).p.u,(e_ xs k).p.v⟩]) Au ty105 C C dc dc C C C C) λan=>?_
   refine Ds1 5<|Se2 C (Cg (α:=Pt) (e:=105) (xs:=out) (ys:=([⟨(e_ xs k).p.u,(e_ xs k).p.v⟩]:List Pt)) Au ty105 C C C mm Bf lcn dc C<|λ_ _=>am) λai Z=>?_
   refine Dr 6 C (Ad fld38_1 C)<|Ds1 7<|Se0 C (Es2_1 ty36) ?_
   exact Dz<|Aj<|Ah<|Ao (S5 2 5 18 19 20 C C C C C)<|Ar<|Gr (Rad C C)<|Gm C<|Bj<|B3 ((k+1),(ai),(Z),(out++([⟨(e_ xs k).p.u,(e_ xs k).p.v⟩]:List Pt)))<|by dsimp only;exact ⟨om,(by rw [edgesK_take om,←ho];rfl)⟩
  refine Se1 C (Cf (α:=Pt) (cs:=[_,_]) (xs:=[⟨(e_ xs k).p.u,(e_ xs k).p.v⟩]) Au ty105 C C dc dc C C C C) λaj=>?_
  refine Ds1 1<|Sr C (Bb ty36) Bc ?_
  refine Ds1 5<|Se2 C (Cg (α:=Pt) (e:=105) (xs:=out) (ys:=([⟨(e_ xs k).p.u,(e_ xs k).p.v⟩]:List Pt)) Au ty105 C C C mm Bf lcn dc C<|λ_ _=>am) λab aa=>?_
  refine Dr 6 C (Ad fld38_1 C)<|Ds1 7<|Se0 C (Es2_1 ty36) ?_
  exact Dz<|Aj<|Ah<|Ao (S5 2 5 18 19 20 C C C C C)<|Ar<|Gr (Rad C C)<|Gm C<|Bj<|B3 ((k+1),(ab),(aa),(out++([⟨(e_ xs k).p.u,(e_ xs k).p.v⟩]:List Pt)))<|by dsimp only;exact ⟨om,(by rw [edgesK_take om,←ho];rfl)⟩
 refine Bs<|Al<|Al<|A2<|Ah<|Af<|Gl2 ty38 ?_
 refine Ge0 (Cz ty38) ?_
 refine Ga C<|Ac<|Az ?_
 have hE:out=edgesK xs:=by rw [ho,List.take_of_length_le om]
 exact C0 C ty38 C C mm C (vk 105 a c (edgesK xs)::I) (by rw [←hE];exact Bl) ⟨a,c,by rw [←hE]<;>rfl,rfl⟩
end Go.Sl
namespace Go.Sl
end Go.Sl
namespace Go.Sl
open Go.Proofs
set_option maxRecDepth 4000
theorem mem_coreK{nd lv:Int}{es:List Pt}{y:Int}:y∈coreK nd es lv↔(0<=y/\y<(coreN nd es).length)/\lv<=e_ (coreN nd es) y:=by
 unfold coreK;rw [mem_sideL,decide_eq_true_eq]
theorem bit_maskB{l:List Int}{i:Nat}(hi:i<64):(maskB l).getLsbD i=true↔(i:Int)∈l:=by
 unfold maskB;rw [getLsb_maskB hi];simp
end Go.Sl
namespace Go.Sl
def ClosB(rows:List (BitVec 64))(k:Nat)(W:BitVec 64):Prop:=∀u∈eo W,k<=degB rows W u
theorem degB_mono{rows:List (BitVec 64)}{W L:BitVec 64}(h:∀u∈eo W,u∈eo L)(v:Int):degB rows W v<=degB rows L v:=by
 unfold degB
 refine List.Nodup.length_le_of_subset (listB_nodup _) λx M=>?_
 obtain ⟨Z,h2⟩:=mem_andB.1 M
 exact mem_andB.2 ⟨Z,h x h2⟩
theorem coreR_ind{rows:List (BitVec 64)}{X:BitVec 64->Nat->List (Int×Nat)->Prop}(h0:∀k,X 0#64 k [])
  (hs:∀left k v,Takes rows left v->X (left &&& ~~~(1#64 <<< v.toNat)) (max k<|degB rows left v) (coreR rows (left &&& ~~~(1#64 <<< v.toNat))<|max k<|degB rows left v)->X left k ((v,max k<|degB rows left v)::coreR rows (left &&& ~~~(1#64 <<< v.toNat)) (max k<|degB rows left v))) :
  ∀(n:Nat) (left:BitVec 64) (k:Nat),(eo left).length=n->X left k (coreR rows left k)
 |0,left,k,h=>by
  have:left=0#64:=Classical.byContradiction λhn=>by
   obtain ⟨u,hu⟩:=nz_listB.1 hn
   have:=List.length_pos_of_mem hu;omega
  subst this
  rw [coreR_zero];exact h0 k
 |n+1,left,k,h=>by
  have Z:left≠0#64:=λe=>by subst e;rw [listB_zero] at h;simp at h
  have M:=takeF_takes (rows:=rows) Z
  rw [coreR_step M]
  have hm:=listB_minus M.mem
  exact hs _ _ _ M<|coreR_ind h0 hs n _ _<|by omega
section
variable {rows:List (BitVec 64)}
theorem coreR_keys(left:BitVec 64)(k:Nat):(ordL (coreR rows left k)).Nodup/\(∀v,v∈ordL (coreR rows left k)↔v∈eo left):=by
 refine coreR_ind (rows:=rows) (X:=λleft k l=>(ordL l).Nodup/\∀v,v∈ordL l↔v∈eo left) (λk=>?_) (λleft k v M ih=>?_) _ left k rfl
 ·refine ⟨List.nodup_nil,λv=>?_⟩
  rw [listB_zero];exact Iff.rfl
 have Z:=(listB_lt M.mem).1
 obtain ⟨h1,h2⟩:=ih
 refine ⟨List.nodup_cons.2 ⟨λhm=>((mem_minus Z).1 ((h2 v).1 hm)).2 rfl,h1⟩,λu=>?_⟩
 show u∈v::ordL (coreR rows _ _)↔_
 rw [List.mem_cons,h2,mem_minus Z]
 constructor
 ·rintro (rfl|h)
  ·exact M.mem
  exact h.1
 intro h
 by_cases e:u=v
 ·exact .inl e
 exact .inr ⟨h,e⟩
theorem coreR_ge(left:BitVec 64)(k:Nat):∀p∈coreR rows left k,k<=p.2:=by
 refine coreR_ind (rows:=rows) (X:=λleft k l=>∀p∈l,k<=p.2) (λk p hp=>by cases hp) (λleft k v M Z p hp=>?_) _ left k rfl
 rcases List.mem_cons.1 hp with rfl|hp
 ·show k<=max k _;omega
 have:=Z p hp;omega
theorem coreR_clos{j:Nat}{W:BitVec 64}(hW:ClosB rows j W)(left:BitVec 64)(k:Nat):(∀u∈eo W,u∈eo left)->∀p∈coreR rows left k,p.1∈eo W->j<=p.2:=by
 refine coreR_ind (rows:=rows) (X:=λleft k l=>(∀u∈eo W,u∈eo left)->∀p∈l,p.1∈eo W->j<=p.2) (λk _ p hp=>by cases hp) (λleft k v hT ih Z p hp M=>?_) _ left k rfl
 have h0:=(listB_lt hT.mem).1
 by_cases hv:v∈eo W
 ·have h1:=hW v hv
  have h2:=degB_mono (rows:=rows) Z v
  rcases List.mem_cons.1 hp with rfl|hp
  ·show j<=max k _;omega
  have:=coreR_ge _ _ p hp;omega
 rcases List.mem_cons.1 hp with rfl|hp
 ·exact absurd M hv
 exact ih (λu hu=>(mem_minus h0).2 ⟨Z u hu,λe=>hv<|e▸hu⟩) p hp M
theorem coreR_core(left:BitVec 64)(k0:Nat):∀k,k0<k->∃W:BitVec 64,ClosB rows k W/\(∀u∈eo W,u∈eo left)/\∀p∈coreR rows left k0,k<=p.2↔p.1∈eo W:=by
 refine coreR_ind (rows:=rows) (X:=λleft k0 l=>∀k,k0<k->∃W:BitVec 64,ClosB rows k W/\(∀u∈eo W,u∈eo left)/\∀p∈l,k<=p.2↔p.1∈eo W) (λk0 k hk=>?_) (λleft k0 v hT ih k hk=>?_) _ left k0 rfl
 ·refine ⟨0#64,λu hu=>?_,λu hu=>hu,λp hp=>by cases hp⟩
  rw [listB_zero] at hu;cases hu
 have M:=(listB_lt hT.mem).1
 by_cases hc:k<=max k0 (degB rows left v)
 ·refine ⟨left,λu hu=>?_,λu hu=>hu,λp hp=>⟨λ_=>?_,λ_=>?_⟩⟩
  ·have:=hT.le u hu;omega
  ·rcases List.mem_cons.1 hp with rfl|hp
   ·exact hT.mem
   have Z:p.1∈ordL (coreR rows (left &&& ~~~(1#64 <<< v.toNat))<|max k0<|degB rows left v):=List.mem_map.2 ⟨p,hp,rfl⟩
   exact ((mem_minus M).1 (((coreR_keys _ _).2 _).1 Z)).1
  rcases List.mem_cons.1 hp with rfl|hp
  ·exact hc
  have:=coreR_ge _ _ p hp;omega
 obtain ⟨W,Z,h2,h3⟩:=ih k (by omega)
 refine ⟨W,Z,λu hu=>((mem_minus M).1 (h2 u hu)).1,λp hp=>?_⟩
 rcases List.mem_cons.1 hp with rfl|hp
 ·exact ⟨λh=>absurd h hc,λh=>absurd rfl ((mem_minus M).1 (h2 _ h)).2⟩
 exact h3 p hp
theorem numL_at{n:Nat}:∀{l:List (Int×Nat)},(ordL l).Nodup->(∀v∈ordL l,0<=v/\v<(n:Int))->∀p∈l,e_ (numL n l) p.1=(p.2:Int):=by
 intro l
 unfold numL
 have hk:∀(l:List (Int×Nat)) (xs:List Int) (u:Int),0<=u->(∀v∈ordL l,0<=v)->u∉ordL l->e_ (l.foldl (λxs p=>xs.set p.1.toNat (p.2:Int)) xs) u=e_ xs u:=λl=>by
  induction l with
  |nil=>intro xs u _ _ _;rfl
  |cons q l ih=>
   intro xs u hu h0 hn
   have hq:0<=q.1:=h0 q.1 List.mem_cons_self
   have ab:u≠q.1:=λe=>hn (by rw [e];exact List.mem_cons_self)
   rw [List.foldl_cons,ih _ u hu (λv hv=>h0 v<|List.mem_cons_of_mem _ hv) λh=>hn<|List.mem_cons_of_mem _ h]
   unfold e_
   rw [List.getD_eq_getElem?_getD,List.getD_eq_getElem?_getD,List.getElem?_set_ne (by omega)]
 have:∀(l:List (Int×Nat)) (xs:List Int),xs.length=n->(ordL l).Nodup->(∀v∈ordL l,0<=v/\v<(n:Int))->∀p∈l,e_ (l.foldl (λxs p=>xs.set p.1.toNat (p.2:Int)) xs) p.1=(p.2:Int):=λl=>by
  induction l with
  |nil=>intro xs _ _ _ p hp;cases hp
  |cons q l ih=>
   intro xs hl hn hr p hp
   obtain ⟨hq,aa⟩:=List.nodup_cons.1 (show (q.1::ordL l).Nodup from hn)
   have M:∀v∈ordL l,0<=v/\v<(n:Int):=λv hv=>hr v (List.mem_cons_of_mem _ hv)
   have Z:=hr q.1 List.mem_cons_self
   rw [List.foldl_cons]
   rcases List.mem_cons.1 hp with rfl|hp
   ·rw [hk l _ p.1 Z.1 (λv hv=>(M v hv).1) hq,at_set _ _ _ _ Z.1 Z.1<|by omega,if_pos rfl]
   exact ih _ (by rw [List.length_set];exact hl) aa M p hp
 exact λh1 h2=>this l _ List.length_replicate h1 h2
end
end Go.Sl
namespace Go.Sl
open Go.Proofs
set_option maxRecDepth 4000
variable{lv n u x:Int}{k:Nat}{W:BitVec 64}{l m:List Int}{κ:Ctx}{A I:List Item}
section
variable {nd:Int}{es:List Pt}
theorem coreL_at(Z:GrOk nd es)(h0:0<=u)(h1:u<nd):∃p∈coreR0 nd es,p.1=u/\e_ (coreN nd es) u=(p.2:Int):=by
 have hl:=Z.rows.len
 have hS:=rows_sym Z
 have M:=coreR_keys (rows:=ek nd es) (allB ((ek nd es).length:Int)) 0
 have hm:u∈ordL (coreR0 nd es):=(M.2 u).2 ((mem_allN hS.le).2 om)
 obtain ⟨p,hp,rfl⟩:=List.mem_map.1 hm
 refine ⟨p,hp,rfl,?_⟩
 unfold coreN
 rw [if_neg (by rw [checkG_ok.2 Z];decide)]
 exact numL_at M.1 (λv hv=>by have:=(mem_allN hS.le).1 ((M.2 v).1 hv);omega) p hp
theorem core_clos(Z:GrOk nd es)(hc:ClosB (ek nd es) k W)(hs:subN nd W)(hu:u∈eo W):(k:Int)<=e_ (coreN nd es) u:=by
 have hl:=Z.rows.len
 have hr:=Z.rng
 have hS:=rows_sym Z
 obtain ⟨p,hp,e,h⟩:=coreL_at Z (Eo hu).1 (hs u hu)
 have:=coreR_clos hc (allB ((ek nd es).length:Int)) 0 (λx M=>(mem_allN hS.le).2 ⟨(Eo M).1,by have:=hs x M;omega⟩) p hp (by rw [e];exact hu)
 omega
theorem core_some(Z:GrOk nd es)(hk:1<=k):∃W,ClosB (ek nd es) k W/\subN nd W/\∀u,0<=u->u<nd->(k:Int)<=e_ (coreN nd es) u->u∈eo W:=by
 have hl:=Z.rows.len
 have hr:=Z.rng
 have hS:=rows_sym Z
 obtain ⟨W,M,h2,h3⟩:=coreR_core (rows:=ek nd es) (allB ((ek nd es).length:Int)) 0 k om
 refine ⟨W,M,λx hx=>by have:=(mem_allN hS.le).1 (h2 x hx);omega,λu h0 h4 h5=>?_⟩
 obtain ⟨p,hp,e,h⟩:=coreL_at Z h0 h4
 have:=(h3 p hp).1 om
 rwa [e] at this
theorem core_pos(Z:GrOk nd es)(h0:0<=u)(M:u<nd):0<=e_ (coreN nd es) u/\e_ (coreN nd es) u<nd:=by
 have hl:=Z.rows.len
 have hr:=Z.rng
 have hS:=rows_sym Z
 obtain ⟨p,hp,e,h⟩:=coreL_at Z h0 M
 have:=coreF_bound (degB_all hS om) _ _ _ (Nat.zero_le _) p hp
 omega
theorem deg_meet(Z:GrOk nd es)(hW:∀x,x∈eo W↔x∈l)(h0:0<=u)(M:u<nd):degB (ek nd es) W u=(meetL (nbG nd es u) l).length:=by
 unfold degB
 have hr:=Z.rng
 refine ((List.perm_ext_iff_of_nodup (Di _) ?_).2 λx=>?_).length_eq
 ·unfold meetL
  exact ((ofL_asc _).imp λh=>by omega:(ofL<|nbG nd es u).Nodup).filter _
 rw [mem_andB,mem_meetL,hW,Z.rows.mem h0 M]
 unfold nbG
 rw [if_neg (by rw [checkG_ok.2 Z];decide),mem_ofL,mem_nbL]
 refine and_congr_left λ_=>⟨λh=>h.2,λh=>⟨?_,h⟩⟩
 rcases h with h|h
 ·have:=Z.edge _ h;simp only at this;omega
 have:=Z.edge _ h;simp only at this;omega
theorem mask_list(hn:n<=64)(h:∀x∈l,0<=x/\x<n)(x:Int):x∈eo (maskB l)↔x∈l:=by
 rw [D0]
 constructor
 ·rintro ⟨h0,Z⟩
  have hlt:=BitVec.lt_of_getLsbD Z
  rw [bit_maskB hlt,Int.toNat_of_nonneg h0] at Z
  exact Z
 intro M
 have:=h x M
 refine ⟨this.1,(bit_maskB om).2 ?_⟩
 rw [Int.toNat_of_nonneg this.1];exact M
theorem core_list(hG:GrOk nd es)(ae:l.Pairwise (λx0 x1:Int=>x0<x1))(Z:∀x∈l,0<=x/\x<nd)(ai:∀x∈l,lv<=((meetL (nbG nd es x) l).length:Int))(ad:∀W:BitVec 64,ClosB (ek nd es) lv.toNat W->subN nd W->∀u∈eo W,u∈l):l=coreK nd es lv:=by
 have hr:=hG.rng
 have hl:=hG.rows.len
 have aj:((coreN nd es).length:Int)=nd:=by
  unfold coreN
  rw [if_neg (by rw [checkG_ok.2 hG];decide),coreL_len];omega
 have hW:=mask_list hr.2 Z
 have M:(coreK nd es lv).Pairwise (λx0 x1:Int=>x0<x1):=by
  unfold coreK
  exact (ValidP_iff.1<|sideL_valid _ _).2
 refine intLin.uniq ae M λx=>?_
 rw [mem_coreK]
 constructor
 ·intro hx
  have aa:=Z x hx
  have hc:ClosB (ek nd es) lv.toNat (maskB l):=λu hu=>by
   have ab:=(hW u).1 hu
   have ah:=Z u ab
   rw [deg_meet hG hW ah.1 ah.2]
   have:=ai u ab
   omega
  have:=core_clos hG hc (λu hu=>(Z u<|(hW u).1 hu).2) ((hW x).2 hx)
  exact ⟨by omega,by omega⟩
 rintro ⟨aa,hx⟩
 by_cases h0:lv<=0
 ·refine ad (allB nd) (λu hu=>by omega) (all_sub hr.1 hr.2) x (mem_listB.2 ⟨aa.1,?_⟩)
  rw [getLsb_allB hr.1 hr.2 om,decide_eq_true_eq];omega
 obtain ⟨W,h1,h2,h3⟩:=core_some hG (k:=lv.toNat) om
 exact ad W h1 h2 x<|h3 x aa.1 om om
theorem core_drop(hG:GrOk nd es)(Z:∀y∈m,0<=y/\y<nd)(M:∀W:BitVec 64,ClosB (ek nd es) lv.toNat W->subN nd W->∀u∈eo W,u∈m)(hx:x∈m)(hlt:((meetL (nbG nd es x) m).length:Int)<lv):∀W:BitVec 64,ClosB (ek nd es) lv.toNat W->subN nd W->∀u∈eo W,u∈minusL m [x]:=λW h1 h2 u hu=>by
 have hr:=hG.rng
 have ab:=M W h1 h2 u hu
 rw [show u∈minusL m [x]↔u∈m/\u∉[x] by simp [minusL,mem_ofL]]
 refine ⟨ab,λe=>?_⟩
 rw [List.mem_singleton] at e
 subst e
 have aa:=Z u hx
 have h3:=h1 u hu
 have h4:=degB_mono (rows:=ek nd es) (W:=W) (L:=maskB m) (λy hy=>(mask_list hr.2 Z y).2 (M W h1 h2 y hy)) u
 rw [deg_meet hG (mask_list hr.2 Z) aa.1 aa.2] at h4
 omega
end
theorem Fit.vcR{R:List Item}{x:Item}:Fit κ (A++((x::R)++I)) (x::(A++I)):=
 Cq (C2 List.perm_middle) (Dm<|List.Sublist.cons_cons _<|List.Sublist.append_left (List.sublist_append_right R I) A)
theorem Fit.vcIn{x:Item}:Fit κ (x::(A++I)) (A++([x]++I)):=C2 List.perm_middle.symm
theorem mem_mnC:u∈minusL m [x]↔u∈m/\u≠x:=by simp [minusL,mem_ofL]
theorem asc_len64(h:l.Pairwise (λx0 M:Int=>x0<M))(hr:∀x∈l,0<=x/\x<64):l.length<=64:=by
 have hs:∀x∈l,x∈(List.range 64).map fun (i:Nat)=>(i:Int):=λx Z=>by
  have:=hr x Z
  exact List.mem_map.2 ⟨x.toNat,List.mem_range.2 om,by omega⟩
 have:=List.Nodup.length_le_of_subset (h.imp λh=>by omega:l.Nodup) hs
 rwa [List.length_map,List.length_range] at this
theorem asc_inj(h:l.Pairwise (λx0 M:Int=>x0<M)){i j:Nat}(hi:i<l.length)(Z:j<l.length)(e:e_ l i=e_ l j):i=j:=by
 rw [Cn _ i hi,Cn _ j Z] at e
 rcases Nat.lt_trichotomy i j with h1|h1|h1
 ·have:=(List.pairwise_iff_getElem.1 h) i j hi Z h1;omega
 ·exact h1
 have:=(List.pairwise_iff_getElem.1 h) j i Z hi h1;omega
theorem mnC_len(h:m.Pairwise (λx0 M:Int=>x0<M))(Z:x∈m):(minusL m [x]).length+1=m.length:=by
 have hn:(minusL m [x]).Nodup:=((ofL_asc m).imp λh=>by omega:(ofL m).Nodup).filter _
 have hp:m.Perm (x::minusL m [x]):=(List.perm_ext_iff_of_nodup (h.imp λh=>by omega)<|List.nodup_cons.2 ⟨λe=>(mem_mnC.1 e).2 rfl,hn⟩).2 λu=>by
  rw [List.mem_cons,mem_mnC]
  by_cases e:u=x
  ·subst e;simp [Z]
  simp [e]
 have:=hp.length_eq
 rw [List.length_cons] at this;omega
theorem range_valid(M:0<=n/\n<=64):ValidP (rangeI n) n:=by
 refine ValidP_iff.2 ⟨λx Z=>by have:=mem_rangeI.1 Z;omega,?_⟩
 unfold rangeI
 refine List.Pairwise.map _ (λa b h=>?_)<|List.pairwise_lt_range (n:=(min n 64).toNat)
 omega
set_option maxHeartbeats 2000000 in
theorem Core10_ok{nd:Int}{va:Value}{es:List Pt}(hl:Sl κ I va es)(hG:GrOk nd es)(hb:es.length<=1000000):eu Tryz.prog κ 52 [.agg #[e7 nd,va],e7 lv] I (λr J=>∃a c,r = .slice a (coreK nd es lv).length c/\J=vk 3 a c (coreK nd es lv)::I):=by
 have hr:=hG.rng
 refine Ce2 Tryz.func52 C C ?_
 refine Af<|Ge1 (Bg (cs:=[_,_]) C C C) λb1=>Ga C<|Ac<|Af<|Gf fld38_0 C<|Gl ef ?_
 refine Gc2 (Ak c_ C C<|Range_ok nd) λaq ay=>?_
 refine Ga C<|Ac<|Aq<|Af<|Ga C<|Ac<|Aw<|Bu (σ:=(Option Addr)×Nat×(List Int)×Bool) (λs=>([(1,e7 lv),(2,pt b1),(5,.slice s.1 s.2.2.1.length s.2.1),(6,.bool<|s.2.2.2)]:Env)) (λs=>vk 3 s.1 s.2.1 s.2.2.1::e8 b1 [e7 nd,va] 38::I) (λs=>(s.2.2.1.Pairwise (λx0 x1:Int=>x0<x1))/\(∀x∈s.2.2.1,0<=x/\x<nd)/\(∀W:BitVec 64,ClosB (ek nd es) lv.toNat W->subN nd W->∀u∈eo W,u∈s.2.2.1)/\(s.2.2.2=false->∀x∈s.2.2.1,lv<=((meetL (nbG nd es x) s.2.2.1).length:Int))) (λs=>(2*s.2.2.1.length+s.2.2.2.toNat)) (aq,ay,rangeI nd,true) (show ((rangeI nd:List Int).Pairwise (λx0 x1:Int=>x0<x1))/\(∀x∈(rangeI nd:List Int),0<=x/\x<nd)/\(∀W:BitVec 64,ClosB (ek nd es) lv.toNat W->subN nd W->∀u∈eo W,u∈(rangeI nd:List Int))/\((true:Bool)=false->∀x∈(rangeI nd:List Int),lv<=((meetL (nbG nd es x) (rangeI nd:List Int)).length:Int)) from ⟨(ValidP_iff.1<|range_valid hr).2,(ValidP_iff.1<|range_valid hr).1,(λW h1 h2 u hu=>mem_rangeI.2<|by have:=h2 u hu;have:=Eo hu;omega),(λh=>by cases h)⟩) (Aa C<|Aa C<|Aa (Cx C<|by first|rfl|simp)<|Aa (Cx C<|by first|rfl|simp) Bi) (show Fit κ _ (vk 3 aq ay (rangeI nd)::e8 b1 [e7 nd,va] 38::I) from Bl) ?_
 rintro ⟨a,c,l,ag⟩ hp
 dsimp only at hp ⊢
 obtain ⟨aa,ab,ap,a1⟩:=hp
 have a9:l.length<=64:=asc_len64 aa (λx hx=>by have:=ab x hx;omega)
 refine Aq<|Af<|Gm C<|Ac<|D4 C (λc12=>?_)<|λc12=>?_
 ·refine Av (Ah<|Aw<|Af<|Ga C<|Ac<|Af<|Gm C<|Gr (Bh Ab C)<|Gm C<|Ac<|Aw<|Bu (σ:=Nat×(Option Addr)×Nat×(List Int)×Bool×(List Item)) (λs=>([(1,e7 lv),(2,pt b1),(5,.slice s.2.1 s.2.2.2.1.length s.2.2.1),(6,.bool<|s.2.2.2.2.1),(13,.slice a l.length c),(14,e7 ((l.length:Nat):Int)),(15,e7 ((s.1:Nat):Int))]:Env)) (λs=>e8 b1 [e7 nd,va] 38::(s.2.2.2.2.2++I)) (λs=>(s.1<=l.length)/\(Sl κ s.2.2.2.2.2 (.slice a l.length c) l)/\(∃R,s.2.2.2.2.2=vk 3 s.2.1 s.2.2.1 s.2.2.2.1::R)/\(s.2.2.2.1.Pairwise (λx0 x1:Int=>x0<x1))/\(∀x∈s.2.2.2.1,x∈l)/\(∀W:BitVec 64,ClosB (ek nd es) lv.toNat W->subN nd W->∀u∈eo W,u∈s.2.2.2.1)/\(s.2.2.2.2.1=false->s.2.2.2.1=l/\∀i:Nat,i<s.1->lv<=((meetL (nbG nd es<|e_ l i) l).length:Int))/\(∀i:Nat,s.1<=i->i<l.length->e_ l i∈s.2.2.2.1)/\(s.2.2.2.1.length+s.2.2.2.2.1.toNat<=l.length/\(s.2.2.2.2.1=true->s.2.2.2.1.length<l.length))) (λs=>(l.length - s.1)) (0,a,c,l,false,[vk 3 a c l]) (show ((0:Nat)<=l.length)/\(Sl κ ([vk 3 a c l]:List Item) (.slice a l.length c) l)/\(∃R,([vk 3 a c l]:List Item)=vk 3 (a:Option Addr) (c:Nat) (l:List Int)::R)/\((l:List Int).Pairwise (λx0 x1:Int=>x0<x1))/\(∀x∈(l:List Int),x∈l)/\(∀W:BitVec 64,ClosB (ek nd es) lv.toNat W->subN nd W->∀u∈eo W,u∈(l:List Int))/\((false:Bool)=false->(l:List Int)=l/\∀i:Nat,i<(0:Nat)->lv<=((meetL (nbG nd es<|e_ l i) l).length:Int))/\(∀i:Nat,(0:Nat)<=i->i<l.length->e_ l i∈(l:List Int))/\((l:List Int).length+(false:Bool).toNat<=l.length/\((false:Bool)=true->(l:List Int).length<l.length)) from ⟨om,(C3 List.mem_cons_self),⟨[],rfl⟩,aa,(λx hx=>hx),ap,(λ_=>⟨rfl,λi hi=>by omega⟩),(λi _ hi=>B1 om om),⟨by simp,λh=>by cases h⟩⟩) (Aa C<|Aa C<|Aa (Cx C<|by first|rfl|simp)<|Aa (Cx C<|by first|rfl|simp)<|Aa C<|Aa C<|Aa B2 Bi) (show Fit κ _ (e8 b1 [e7 nd,va] 38::(([vk 3 a c l])++I)) from (Fit.vcIn (A:=[e8 b1 [e7 nd,va] 38]))) ?_)
  rintro ⟨j,a2,c2,m,aj,Y2⟩ hp
  dsimp only at hp ⊢
  obtain ⟨hj,ai,ax,Z,M,ad,an,ak,az⟩:=hp
  have a8:m.length<=64:=asc_len64 Z (λx hx=>by have:=ab x (M x hx);omega)
  have aw:Sl κ Y2 (.slice a2 m.length c2) m:=by obtain ⟨R,rfl⟩:=ax;exact C3 List.mem_cons_self
  refine Af<|Gr (A4 C C)<|Ac<|Aq<|A5 C (λa6=>?_)<|λa6=>?_
  ·refine Av (Ah<|Aq<|Aw<|Af<|Gr (Ax (α:=Int) (xs:=l) Ab ef C C (Bz ai<|Dm<|List.Sublist.trans (List.sublist_append_left _ I)<|List.sublist_append_right ([e8 b1 [e7 nd,va] 38]:List Item)<|Y2++I) om om)<|Gr (Br (xs:=l) ef C (Bz ai<|Dm<|List.Sublist.trans (List.sublist_append_left _ I)<|List.sublist_append_right ([e8 b1 [e7 nd,va] 38]:List Item)<|Y2++I) om om)<|Ga C ?_)
   have ar:=ak j (Nat.le_refl _) om
   refine Ac<|Af<|Gl2 ty38 ?_
   refine Gm C<|G.e (Ak c_ C C<|Neigh03_ok (nd:=nd) (A8 hl) (e_ l j) om) ?_
   rintro _ _ ⟨_,_,⟨ao,av,rfl,rfl⟩,rfl,rfl⟩
   have a0:=nbG_len nd es (e_ l j)
   refine Gm C<|G.e (Ak c_ C C<|Meet_ok Bf (Bz aw<|Dm<|List.Sublist.trans (List.sublist_append_left _ I)<|List.sublist_append_right ([vk 3 ao av (nbG nd es<|e_ l j),e8 b1 [e7 nd,va] 38]:List Item)<|Y2++I)<|by first|omega|(have:=nbG_len nd es (e_ l j);omega)) ?_
   rintro _ _ ⟨_,_,⟨a7,a3,rfl,rfl⟩,rfl,rfl⟩
   refine Gr (Bh Ab C)<|Gm C<|Gr (A4 C C)<|Ac<|Ao (S9 26 8 1 2 5 6 13 14 15 C C C C C C C C C)<|A5 C (λah=>?_)<|λah=>?_
   ·refine Ar (Gm C<|Gm C<|Ge1 (Cf (α:=Int) (cs:=[_]) (xs:=[e_ l j]) Ab ef C C dc dc C C C C) λa4=>?_)
    refine G.e (Ak c_ C C<|Minus_ok (Bz aw<|Dm<|List.Sublist.trans (List.sublist_append_left _ I)<|List.sublist_append_right ([vc 3 (.slice a4 1 1) (([e_ l j]:List Int)),vc 3 (.slice a7 (meetL (nbG nd es<|e_ l j) m).length a3)<|meetL (nbG nd es<|e_ l j) m,vc 3 (.slice ao (nbG nd es<|e_ l j).length av)<|nbG nd es<|e_ l j,e8 b1 [e7 nd,va] 38]:List Item)<|Y2++I) Bf<|by first|omega|(have:=nbG_len nd es (e_ l j);omega)) ?_
    rintro _ _ ⟨_,_,⟨au,ae,rfl,rfl⟩,rfl,rfl⟩
    exact Ga C<|Ga C<|Bj<|Aj<|Ah<|Ao (S7 6 5 1 2 13 14 15 C C C C C C C)<|Ar<|Gr (Rad C C)<|Gm C<|Bj<|B3 ((j+1),(au),(ae),(minusL m ([e_ l j]:List Int)),(true),((vk 3 au ae (minusL m ([e_ l j]:List Int))::Y2))) (by dsimp only;exact ⟨om,(Bz ai<|Fd<|Er _),⟨Y2,rfl⟩,((ofL_asc m).sublist List.filter_sublist),(λx hx=>M x (mem_mnC.1 hx).1),(core_drop hG (λy hy=>ab y<|M y hy) ad ar ah),(λh=>by cases h),(λi h1 h2=>mem_mnC.2 ⟨ak i om h2,λe=>by have:=asc_inj aa h2 (show j<l.length by omega) e;omega⟩),(by have:=mnC_len Z ar;exact ⟨by simp;omega,λ_=>by omega⟩)⟩) (hI:=by (try dsimp only);exact (by first|exact Bl|exact Bc))
   exact Av<|Aj<|Ah<|Ar<|Gr (Rad C C)<|Gm C<|Bj<|B3 ((j+1),(a2),(c2),(m),(aj),(Y2)) (by dsimp only;exact ⟨om,om,om,om,om,om,(λh=>by obtain ⟨e,h2⟩:=an h;refine ⟨e,λi hi=>?_⟩;by_cases e2:i=j;(· subst e2;rw [e] at ah;omega);(· exact h2 i om)),(λi h1 h2=>ak i om h2),om⟩) (hI:=by (try dsimp only);exact (by first|exact Bl|exact Bc))
  refine Bs<|Al<|Al<|A2<|Aj ?_
  obtain ⟨R,rfl⟩:=ax
  exact B3 ((a2),(c2),(m),(aj)) (by dsimp only;exact ⟨Z,(λx hx=>ab x<|M x hx),ad,(λh=>by obtain ⟨e,h2⟩:=an h;subst e;intro x hx;obtain ⟨i,hi,rfl⟩:=mem_at hx;exact h2 i om)⟩) (hlt:=by (try dsimp only);exact (by have a5:ag=true:=(by simpa using c12);subst a5;cases aj<;>simp at az ⊢ <;>omega)) (hI:=by (try dsimp only);exact (Fit.vcR (A:=[e8 b1 [e7 nd,va] 38])))
 refine Bs<|Al<|Al<|A2<|Ah<|Af<|Gm C<|Ga C<|Ac<|Az ?_
 have hE:l=coreK nd es lv:=core_list hG aa ab (a1<|by simpa using c12) ap
 subst hE
 exact A1 C C (vk 3 a c (coreK nd es lv)::I) Bl ⟨a,c,rfl,rfl⟩
end Go.Sl
namespace Go.Sl
variable{w x y:Nat}
section
variable {n:Nat}{e e':Nat->Nat->Bool}{u v:Nat}
structure MoreA (n:Nat) (e e':Nat->Nat->Bool) (u v:Nat):Prop where
 adj:AdjN n e
 lu:u<n
 lv:v<n
 ne:u≠v
 no:e u v=false
 is:∀x y,e' x y=(e x y||(decide (x=u/\y=v)||decide (x=v/\y=u)))
theorem prs_succ(k:Int):prs (k+1)=prs k+k:=by
 unfold prs
 have Z:(k+1)*(k+1 - 1)=k*k+k:=by rw [Int.add_sub_cancel,Int.add_mul,Int.one_mul]
 have M:k*(k - 1)=k*k - k:=by rw [Int.mul_sub,Int.mul_one]
 rw [Z,M];omega
theorem MoreA.oth(h:MoreA n e e' u v)(hu:x≠u\/y≠v)(hv:x≠v\/y≠u):e' x y=e x y:=by
 rw [h.is,decide_eq_false<|by omega,decide_eq_false<|by omega,Bool.or_false,Bool.or_false]
theorem MoreA.uv(h:MoreA n e e' u v):e' u v=true/\e' v u=true:=by
 constructor
 ·rw [h.is,decide_eq_true (show u=u/\v=v from ⟨rfl,rfl⟩)];simp
 rw [h.is,decide_eq_true (show v=v/\u=u from ⟨rfl,rfl⟩)];simp
theorem MoreA.no'(h:MoreA n e e' u v):e v u=false:=by rw [h.adj.sym];exact h.no
theorem MoreA.swap(h:MoreA n e e' u v):MoreA n e e' v u:=⟨h.adj,h.lv,h.lu,h.ne.symm,h.no',λx y=>by rw [h.is,Bool.or_comm (decide _)]⟩
theorem MoreA.adj'(h:MoreA n e e' u v):AdjN n e':=by
 refine ⟨λx y=>?_,λx=>?_⟩
 ·rw [h.is,h.is,h.adj.sym x y,Bool.or_comm<|decide<|x=u/\y=v]
  congr 2
  ·rw [decide_eq_decide];omega
  rw [decide_eq_decide];omega
 rw [h.is,h.adj.irr,decide_eq_false<|by have:=h.ne;omega,decide_eq_false<|by have:=h.ne;omega];rfl
theorem coN_sym(h:AdjN n e)(x y:Nat):coN n e x y=coN n e y x:=by
 unfold coN
 by_cases hq:x=y
 ·rw [if_pos hq,if_pos hq.symm]
 rw [if_neg hq,if_neg<|Ne.symm hq]
 exact sumN_congr n λz _=>by rw [Bool.and_comm]
theorem MoreA.co_u(h:MoreA n e e' u v)(Z:y≠u)(M:y≠v):coN n e' u y=coN n e u y+ind (e v y):=by
 unfold coN
 rw [if_neg (Ne.symm Z),if_neg (Ne.symm Z),sumN_upd h.lv (g:=λx=>ind (e u x&&e y x)) (h:=λx=>ind (e' u x&&e' y x)) λj _ hj=>by
  rw [h.oth (x:=u) (y:=j) (.inr hj) (.inl h.ne),h.oth (x:=y) (y:=j) (.inl Z) (.inl M)]]
 rw [h.uv.1,h.oth (x:=y) (y:=v) (.inl Z)<|.inl M,h.no,h.adj.sym y v,Bool.true_and,Bool.false_and,ind_f]
 omega
theorem MoreA.co_uv(h:MoreA n e e' u v):coN n e' u v=coN n e u v:=by
 unfold coN
 rw [if_neg h.ne,if_neg h.ne]
 refine sumN_congr n λz _=>?_
 by_cases hz:z=v
 ·subst hz;rw [h.adj'.irr,h.adj.irr];simp
 by_cases hz2:z=u
 ·subst hz2;rw [h.adj'.irr,h.adj.irr];simp
 rw [h.oth (x:=u) (y:=z) (.inr hz) (.inr hz2),h.oth (x:=v) (y:=z) (.inr hz)<|.inr hz2]
theorem MoreA.co_oth(h:MoreA n e e' u v)(Z:x≠u)(x2:x≠v)(M:y≠u)(y2:y≠v):coN n e' x y=coN n e x y:=by
 unfold coN
 by_cases hq:x=y
 ·rw [if_pos hq,if_pos hq]
 rw [if_neg hq,if_neg hq]
 exact sumN_congr n λz _=>by rw [h.oth (x:=x) (y:=z) (.inl Z) (.inl x2),h.oth (x:=y) (y:=z) (.inl M)<|.inl y2]
theorem prs_ind(k:Int)(p:Bool):prs (k+ind p)=prs k+if p=true then k else 0:=by
 cases p with
 |true=>rw [ind_t,prs_succ,if_pos rfl]
 |false=>rw [ind_f,Int.add_zero,if_neg<|by decide,Int.add_zero]
def ovr(e:Nat->Nat->Bool)(u v a b:Nat):Bool:=e u a&&e v b&&e a b
theorem ind_if(p:Bool)(q:Nat->Bool):sumN n (λz=>ind (p&&q z))=if p=true then sumN n (λz=>ind (q z)) else 0:=by
 cases p with
 |true=>rw [if_pos rfl];exact sumN_congr n λz _=>by rw [Bool.true_and]
 |false=>rw [if_neg (by decide)];exact sumN_eq_zero n λz _=>by rw [Bool.false_and];rfl
theorem MoreA.quad_u(h:MoreA n e e' u v):quadN n e' u=quadN n e u+sumN n λa=>sumN n λb=>ind (ovr e u v a b):=by
 have M:sumN n (λa=>sumN n λb=>ind<|ovr e u v a b)=sumN n λy=>if e v y=true then coN n e u y else 0:=by
  rw [sumN_swap n n λa b=>ind<|ovr e u v a b]
  refine sumN_congr n λb _=>?_
  have:(λa=>ind<|ovr e u v a b)=λa=>ind (e v b&&(e u a&&e b a)):=funext λa=>by
   unfold ovr;rw [h.adj.sym a b];congr 1
   cases e u a<;>cases e v b<;>cases e b a<;>rfl
  rw [this,ind_if (e v b) λa=>e u a&&e b a]
  by_cases hb:e v b=true
  ·have Z:u≠b:=λq=>by rw [←q,h.no'] at hb;cases hb
   rw [if_pos hb,if_pos hb];unfold coN;rw [if_neg Z]
  rw [if_neg hb,if_neg hb]
 rw [M]
 unfold quadN
 rw [←sumN_add]
 refine sumN_congr n λy _=>?_
 by_cases hu:y=u
 ·subst hu
  rw [if_neg (by rw [h.no'];decide)]
  unfold coN;rw [if_pos rfl,if_pos rfl];omega
 by_cases hv:y=v
 ·subst hv;rw [h.co_uv,h.adj.irr,if_neg<|by decide,Int.add_zero]
 rw [h.co_u hu hv,prs_ind]
theorem MoreA.quad_v(h:MoreA n e e' u v):quadN n e' v=quadN n e v+sumN n λa=>sumN n λb=>ind (ovr e u v a b):=by
 rw [h.swap.quad_u,sumN_swap n n λa b=>ind<|ovr e v u a b]
 congr 1
 refine sumN_congr n λa _=>sumN_congr n λb _=>?_
 unfold ovr
 rw [h.adj.sym b a,Bool.and_comm<|e v b]
theorem MoreA.quad_oth(h:MoreA n e e' u v)(Z:w≠u)(M:w≠v):quadN n e' w=quadN n e w+sumN n (λb=>ind (ovr e u v w b))+sumN n λa=>ind (ovr e u v a w):=by
 have ha:sumN n (λb=>ind<|ovr e u v w b)=if e u w=true then coN n e w v else 0:=by
  have:(λb=>ind<|ovr e u v w b)=λb=>ind (e u w&&(e w b&&e v b)):=funext λb=>by
   unfold ovr;congr 1
   cases e u w<;>cases e v b<;>cases e w b<;>rfl
  rw [this,ind_if (e u w) λb=>e w b&&e v b]
  unfold coN;rw [if_neg M]
 have hb:sumN n (λa=>ind<|ovr e u v a w)=if e v w=true then coN n e w u else 0:=by
  have:(λa=>ind<|ovr e u v a w)=λa=>ind (e v w&&(e w a&&e u a)):=funext λa=>by
   unfold ovr;rw [h.adj.sym a w];congr 1
   cases e u a<;>cases e v w<;>cases e w a<;>rfl
  rw [this,ind_if (e v w) λa=>e w a&&e u a]
  unfold coN;rw [if_neg Z]
 rw [ha,hb]
 have h1:quadN n e' w=sumN n λy=>prs (coN n e w y)+((if y=v then (if e u w=true then coN n e w v else 0) else 0)+(if y=u then (if e v w=true then coN n e w u else 0) else 0)):=by
  unfold quadN
  refine sumN_congr n λy _=>?_
  by_cases hu:y=u
  ·subst hu
   rw [if_neg h.ne,if_pos rfl,coN_sym h.adj' w y,h.co_u Z M,prs_ind,coN_sym h.adj y w];omega
  by_cases hv:y=v
  ·subst hv
   rw [if_pos rfl,if_neg hu,coN_sym h.adj' w y,h.swap.co_u M Z,prs_ind,coN_sym h.adj y w];omega
  rw [if_neg hv,if_neg hu,h.co_oth Z M hu hv];omega
 rw [h1,sumN_add,sumN_add,sumN_at h.lv,sumN_at h.lu]
 unfold quadN
 omega
def occ(n:Nat)(e:Nat->Nat->Bool)(u v w:Nat):Int:=sumN n λa=>sumN n λb=>if ovr e u v a b=true then (((ind (decide (u=w))+ind (decide (v=w)))+ind (decide (a=w)))+ind (decide (b=w))) else 0
theorem MoreA.quad(h:MoreA n e e' u v)(hw:w<n):quadN n e' w=quadN n e w+occ n e u v w:=by
 have hp:∀a b,ovr e u v a b=true->a≠u/\a≠v/\b≠u/\b≠v:=λa b Z=>by
  unfold ovr at Z
  rw [Bool.and_eq_true,Bool.and_eq_true] at Z
  obtain ⟨⟨M,h2⟩,_⟩:=Z
  exact ⟨λq=>(by rw [q,h.adj.irr] at M;cases M),λq=>(by rw [q,h.no] at M;cases M),λq=>(by rw [q,h.no'] at h2;cases h2),λq=>(by rw [q,h.adj.irr] at h2;cases h2)⟩
 by_cases w1:w=u
 ·subst w1
  rw [h.quad_u]
  congr 1
  refine sumN_congr n λa _=>sumN_congr n λb _=>?_
  by_cases Z:ovr e w v a b=true
  ·obtain ⟨q1,q2,q3,q4⟩:=hp a b Z
   rw [if_pos Z,Z,decide_eq_true rfl,decide_eq_false h.ne.symm,decide_eq_false q1,decide_eq_false q3];rfl
  rw [if_neg Z];unfold ind;rw [if_neg Z]
 by_cases w2:w=v
 ·subst w2
  rw [h.quad_v]
  congr 1
  refine sumN_congr n λa _=>sumN_congr n λb _=>?_
  by_cases Z:ovr e u w a b=true
  ·obtain ⟨q1,q2,q3,q4⟩:=hp a b Z
   rw [if_pos Z,Z,decide_eq_true rfl,decide_eq_false h.ne,decide_eq_false q2,decide_eq_false q4];rfl
  rw [if_neg Z];unfold ind;rw [if_neg Z]
 rw [h.quad_oth w1 w2,Int.add_assoc]
 congr 1
 have M:occ n e u v w=sumN n (λa=>sumN n λb=>(if a=w then ind (ovr e u v a b) else 0)+(if b=w then ind (ovr e u v a b) else 0)):=by
  refine sumN_congr n λa _=>sumN_congr n λb _=>?_
  by_cases Z:ovr e u v a b=true
  ·rw [if_pos Z,Z,decide_eq_false<|Ne.symm w1,decide_eq_false<|Ne.symm w2,ind_d,ind_d,ind_t,ind_f];omega
  have h0:ind (ovr e u v a b)=0:=by unfold ind;rw [if_neg Z]
  rw [if_neg Z,h0];split<;>split<;>rfl
 rw [M]
 have h2:∀a,sumN n (λb=>(if a=w then ind (ovr e u v a b) else 0)+(if b=w then ind (ovr e u v a b) else 0))=(if a=w then sumN n (λb=>ind<|ovr e u v w b) else 0)+ind (ovr e u v a w):=λa=>by
  rw [sumN_add]
  congr 1
  ·by_cases ha:a=w
   ·subst ha;rw [if_pos rfl];exact sumN_congr n λb _=>if_pos rfl
   rw [if_neg ha];exact sumN_eq_zero n λb _=>if_neg ha
  rw [←sumN_at hw (ind<|ovr e u v a w)]
  refine sumN_congr n λb _=>?_
  by_cases hb:b=w
  ·subst hb;simp
  rw [if_neg hb,if_neg hb]
 rw [sumN_congr n λa _=>h2 a,sumN_add,sumN_at hw]
def ovrS(n:Nat)(e:Nat->Nat->Bool)(u v:Nat):Int:=sumN n λa=>sumN n λb=>ind (ovr e u v a b)
theorem occ_all(h:MoreA n e e' u v):sumN n (occ n e u v)=4*ovrS n e u v:=by
 have h1:∀a,a<n->∀b,b<n->sumN n (λw=>if ovr e u v a b=true then (((ind (decide<|u=w)+ind (decide<|v=w))+ind (decide<|a=w))+ind (decide<|b=w)) else 0)=4*ind (ovr e u v a b):=λa ha b M=>by
  have one:∀k,k<n->sumN n (λw=>ind<|decide<|k=w)=1:=λk hk=>by
   rw [←sumN_at hk 1]
   refine sumN_congr n λw _=>?_
   rw [ind_d]
   by_cases q:w=k
   ·rw [if_pos q.symm,if_pos q]
   rw [if_neg (Ne.symm q),if_neg q]
  by_cases hab:ovr e u v a b=true
  ·rw [sumN_congr n λw _=>if_pos hab,sumN_add,sumN_add,sumN_add,one u h.lu,one v h.lv,one a ha,one b M,hab];rfl
  rw [sumN_eq_zero n λw _=>if_neg hab];unfold ind;rw [if_neg hab];rfl
 have Z:∀(m:Nat) (g:Nat->Int),sumN m (λk=>4*g k)=4*sumN m g:=λm g=>by
  induction m with
  |zero=>rfl
  |succ m ih=>
   show sumN m _+4*g m=4*(sumN m g+g m)
   rw [ih];omega
 unfold occ
 rw [sumN_swap n n λw a=>sumN n λb=>if ovr e u v a b=true then (((ind (decide<|u=w)+ind (decide<|v=w))+ind (decide<|a=w))+ind (decide<|b=w)) else 0]
 rw [sumN_congr n λa ha=>(sumN_swap n n λw b=>if ovr e u v a b=true then (((ind (decide<|u=w)+ind (decide<|v=w))+ind (decide<|a=w))+ind (decide<|b=w)) else 0).trans ((sumN_congr n λb M=>h1 a ha b M).trans (Z n _))]
 rw [Z];rfl
theorem MoreA.all(h:MoreA n e e' u v):quadS n e'=quadS n e+ovrS n e u v:=by
 have Z:=quad_four h.adj'
 have h2:=quad_four h.adj
 have h3:=occ_all h
 rw [sumN_congr n λw M=>h.quad M,sumN_add] at Z
 omega
end
end Go.Sl
namespace Go.Sl
section
variable {n:Nat}{e e':Nat->Nat->Bool}{u v:Nat}
def triT(n:Nat)(e:Nat->Nat->Bool)(w:Nat):Int:=sumN n λx=>sumN n λy=>ind (e x y&&(e w x&&e w y))
theorem sumN_2p{p q:Nat}(Z:p<n)(M:q<n)(c d:Int)(g:Nat->Int):sumN n (λx=>g x+((if x=p then c else 0)+(if x=q then d else 0)))=sumN n g+(c+d):=by
 rw [sumN_add,sumN_add,sumN_at Z,sumN_at M]
theorem MoreA.tri_oth(h:MoreA n e e' u v){w:Nat}(w1:w≠u)(w2:w≠v):triT n e' w=triT n e w+2*ind (e u w&&e v w):=by
 have M:∀x,sumN n (λy=>ind<|e' x y&&(e' w x&&e' w y))=sumN n (λy=>ind<|e x y&&(e w x&&e w y))+((if x=u then ind (e u w&&e v w) else 0)+(if x=v then ind (e u w&&e v w) else 0)):=λx=>by
  have Z:∀z,e' w z=e w z:=λz=>h.oth (.inl w1) (.inl w2)
  by_cases hx:x=u
  ·subst hx
   rw [if_pos rfl,if_neg h.ne,Int.add_zero,sumN_upd h.lv (g:=λy=>ind<|e x y&&(e w x&&e w y)) λj _ hj=>by rw [Z,Z,h.oth (.inr hj)<|.inl h.ne]]
   rw [Z,Z,h.uv.1,h.no,h.adj.sym x w,h.adj.sym v w,Bool.true_and,Bool.false_and,ind_f];omega
  by_cases hv:x=v
  ·subst hv
   rw [if_neg hx,if_pos rfl,Int.zero_add,sumN_upd h.lu (g:=λy=>ind<|e x y&&(e w x&&e w y)) λj _ hj=>by rw [Z,Z,h.oth (.inl hx)<|.inr hj]]
   rw [Z,Z,h.uv.2,h.no',h.adj.sym x w,h.adj.sym u w,Bool.true_and,Bool.false_and,ind_f,Bool.and_comm];omega
  rw [if_neg hx,if_neg hv]
  rw [sumN_congr n λy _=>by rw [Z,Z,h.oth (x:=x) (y:=y) (.inl hx)<|.inl hv]];omega
 unfold triT
 rw [sumN_congr n λx _=>M x,sumN_2p h.lu h.lv];omega
theorem MoreA.tri_u(h:MoreA n e e' u v):triT n e' u=triT n e u+2*coN n e u v:=by
 have M:∀x y,ind (e' x y&&(e' u x&&e' u y))=ind (e x y&&(e u x&&e u y))+((if x=v then ind (e u y&&e v y) else 0)+(if y=v then ind (e u x&&e v x) else 0)):=λx y=>by
  by_cases hx:x=v
  ·subst hx
   rw [if_pos rfl,h.uv.1,h.no]
   by_cases hy:y=x
   ·subst hy;rw [h.adj'.irr,h.adj.irr,h.no];simp [ind]
   rw [if_neg hy]
   by_cases hu:y=u
   ·subst hu;rw [h.adj'.irr,h.adj.irr];simp [ind]
   rw [h.oth (x:=x) (y:=y) (.inl h.ne.symm) (.inr hu),h.oth (x:=u) (y:=y) (.inr hy)<|.inl h.ne,Bool.true_and,Bool.false_and,Bool.and_false,ind_f,Bool.and_comm];omega
  rw [if_neg hx,h.oth (x:=u) (y:=x) (.inr hx)<|.inl h.ne]
  by_cases hy:y=v
  ·subst hy
   rw [if_pos rfl,h.uv.1,h.no]
   by_cases hu:x=u
   ·subst hu;rw [h.adj.irr];simp [ind]
   rw [h.oth (x:=x) (y:=y) (.inl hu) (.inl hx),h.adj.sym x y,Bool.and_true,Bool.and_false,Bool.and_false,ind_f,Bool.and_comm];omega
  rw [if_neg hy,h.oth (x:=u) (y:=y) (.inr hy)<|.inl h.ne,h.oth (x:=x) (y:=y) (.inr hy)<|.inl hx];omega
 unfold triT
 rw [sumN_congr n λx _=>sumN_congr n λy _=>M x y]
 have h2:∀x,sumN n (λy=>ind (e x y&&(e u x&&e u y))+((if x=v then ind (e u y&&e v y) else 0)+(if y=v then ind (e u x&&e v x) else 0)))=sumN n (λy=>ind<|e x y&&(e u x&&e u y))+((if x=v then coN n e u v else 0)+ind (e u x&&e v x)):=λx=>by
  rw [sumN_add,sumN_add,sumN_at h.lv]
  congr 2
  by_cases hx:x=v
  ·rw [if_pos hx];unfold coN;rw [if_neg h.ne];exact sumN_congr n λy _=>if_pos hx
  rw [if_neg hx];exact sumN_eq_zero n λy _=>if_neg hx
 rw [sumN_congr n λx _=>h2 x,sumN_add,sumN_add,sumN_at h.lv]
 have Z:sumN n (λx=>ind<|e u x&&e v x)=coN n e u v:=by unfold coN;rw [if_neg h.ne]
 rw [Z];omega
theorem MoreA.tri_v(h:MoreA n e e' u v):triT n e' v=triT n e v+2*coN n e u v:=by rw [h.swap.tri_u,coN_sym h.adj]
theorem MoreA.tri(h:MoreA n e e' u v)(w:Nat):triT n e' w=triT n e w+2*ind (e u w&&e v w)+((if w=u then 2*coN n e u v else 0)+(if w=v then 2*coN n e u v else 0)):=by
 by_cases w1:w=u
 ·subst w1;rw [h.tri_u,if_pos rfl,if_neg h.ne,h.adj.irr,Bool.false_and,ind_f];omega
 by_cases w2:w=v
 ·subst w2;rw [h.tri_v,if_neg w1,if_pos rfl,h.adj.irr,Bool.and_false,ind_f];omega
 rw [h.tri_oth w1 w2,if_neg w1,if_neg w2];omega
theorem sumN_mul2(m:Nat)(g:Nat->Int):sumN m (λk=>2*g k)=2*sumN m g:=by
 induction m with
 |zero=>rfl
 |succ m ih=>show sumN m _+2*g m=2*(sumN m g+g m);rw [ih];omega
theorem MoreA.tri_all(h:MoreA n e e' u v):sumN n (triT n e')=sumN n (triT n e)+6*coN n e u v:=by
 rw [sumN_congr n λw _=>h.tri w,sumN_2p h.lu h.lv,sumN_add,sumN_mul2]
 have Z:sumN n (λx=>ind<|e u x&&e v x)=coN n e u v:=by unfold coN;rw [if_neg h.ne]
 rw [Z];omega
def degN(n:Nat)(e:Nat->Nat->Bool)(v:Nat):Int:=sumN n λx=>ind (e v x)
theorem MoreA.deg(h:MoreA n e e' u v)(w:Nat):degN n e' w=degN n e w+ind (decide (w=u)||decide (w=v)):=by
 unfold degN
 by_cases hu:w=u
 ·subst hu
  rw [decide_eq_true rfl,Bool.true_or,ind_t,sumN_upd h.lv (g:=λx=>ind<|e w x) λj _ Z=>by rw [h.oth (.inr Z) (.inl h.ne)],h.uv.1,h.no];rfl
 by_cases hv:w=v
 ·subst hv
  rw [decide_eq_true rfl,Bool.or_true,ind_t,sumN_upd h.lu (g:=λx=>ind<|e w x) λj _ Z=>by rw [h.oth (.inl hu) (.inr Z)],h.uv.2,h.no'];rfl
 rw [decide_eq_false hu,decide_eq_false hv,Bool.or_false,ind_f,Int.add_zero]
 exact sumN_congr n λx _=>by rw [h.oth (.inl hu) (.inl hv)]
theorem MoreA.wedges(h:MoreA n e e' u v):sumN n (λw=>prs (degN n e' w))=sumN n (λw=>prs (degN n e w))+(degN n e u+degN n e v):=by
 rw [←sumN_2p h.lu h.lv]
 refine sumN_congr n λw _=>?_
 rw [h.deg,prs_ind]
 by_cases hu:w=u
 ·subst hu;rw [if_pos rfl,if_neg h.ne,decide_eq_true rfl,Bool.true_or,if_pos rfl];omega
 by_cases hv:w=v
 ·subst hv;rw [if_neg hu,if_pos rfl,decide_eq_true rfl,Bool.or_true,if_pos rfl];omega
 rw [if_neg hu,if_neg hv,decide_eq_false hu,decide_eq_false hv,Bool.or_false,if_neg<|by decide];omega
end
end Go.Sl
namespace Go.Sl
open Go.Proofs
set_option maxRecDepth 4000
variable{x y:Int}
section
variable {nd:Int}{es es':List Pt}{u v:Int}
theorem mem_nb(Z:GrOk nd es):y∈nbG nd es x↔(⟨x,y⟩:Pt)∈es\/(⟨y,x⟩:Pt)∈es:=by
 unfold nbG
 rw [if_neg (by rw [checkG_ok.2 Z];decide),mem_ofL,mem_nbL]
theorem nb_asc(nd:Int)(es:List Pt)(x:Int):(nbG nd es x).Pairwise (λM Z:Int=>M<Z):=by
 rw [←nb_eq];exact listB_asc _
theorem nb_nodup(nd:Int)(es:List Pt)(x:Int):(nbG nd es x).Nodup:=(nb_asc nd es x).imp λh=>by omega
theorem nbe_rng(Z:GrOk nd es)(h:y∈nbG nd es x):(0<=x/\x<nd)/\(0<=y/\y<nd)/\x≠y:=by
 rcases (mem_nb Z).1 h with h|h
 ·have:=Z.edge _ h;simp only at this;omega
 have:=Z.edge _ h;simp only at this;omega
theorem nb_sym(Z:GrOk nd es)(h:y∈nbG nd es x):x∈nbG nd es y:=(mem_nb Z).2 ((mem_nb Z).1 h).symm
structure OneE (nd:Int) (es es':List Pt) (u v:Int):Prop where
 ok:GrOk nd es
 ok':GrOk nd es'
 ends:endsP nd u v
 no:edgeP u v∉es
 mem:∀p,p∈es'↔p∈es\/p=edgeP u v
theorem OneE.add(Z:GrOk nd es)(M:endsP nd u v)(hn:edgeP u v∉es):OneE nd es (insB Pt.lt es (edgeP u v)) u v:=⟨Z,Z.add M,M,hn,λp=>by rw [mem_insB];exact Or.comm⟩
theorem OneE.rem(Z:GrOk nd es)(he:endsP nd u v)(M:edgeP u v∈es):OneE nd (without es (edgeP u v)) es u v:=by
 refine ⟨Z.rem,Z,he,λh=>?_,λp=>?_⟩
 ·unfold without at h
  exact of_decide_eq_true (List.mem_filter.1 h).2 rfl
 unfold without
 rw [List.mem_filter,decide_eq_true_eq]
 constructor
 ·intro h
  by_cases e:p=edgeP u v
  ·exact .inr e
  exact .inl ⟨h,e⟩
 rintro (h|h)
 ·exact h.1
 rw [h];exact M
theorem edgeP_mem{nd:Int}(Z:endsP nd u v)(x y:Int):((⟨x,y⟩:Pt)=edgeP u v\/(⟨y,x⟩:Pt)=edgeP u v)↔(x=u/\y=v)\/(x=v/\y=u):=by
 rcases edgeP_of Z with ⟨h,_⟩|⟨h,_⟩
 ·rw [h,Df,Df];simp only;omega
 rw [h,Df,Df];simp only;omega
theorem OneE.nb(h:OneE nd es es' u v)(x y:Int):y∈nbG nd es' x↔y∈nbG nd es x\/(x=u/\y=v)\/(x=v/\y=u):=by
 rw [mem_nb h.ok',mem_nb h.ok,h.mem,h.mem,←edgeP_mem h.ends]
 constructor
 ·rintro ((a|b)|(a|b))
  ·exact .inl<|.inl a
  ·exact .inr<|.inl b
  ·exact .inl<|.inr a
  exact .inr<|.inr b
 rintro ((a|a)|(b|b))
 ·exact .inl<|.inl a
 ·exact .inr<|.inl a
 ·exact .inl<|.inr b
 exact .inr<|.inr b
theorem OneE.nuv(h:OneE nd es es' u v):v∉nbG nd es u/\u∉nbG nd es v:=by
 have Z:∀a b:Int,((⟨a,b⟩:Pt)∈es\/(⟨b,a⟩:Pt)∈es)->edgeP a b∈es:=λa b hh=>by
  rcases hh with hh|hh
  ·have:=h.ok.edge _ hh
   simp only at this
   unfold edgeP
   rw [if_neg om,if_pos om];exact hh
  have:=h.ok.edge _ hh
  simp only at this
  unfold edgeP
  rw [if_pos om,if_neg om];exact hh
 exact ⟨λM=>h.no<|Z _ _<|(mem_nb h.ok).1 M,λM=>h.no<|by rw [edgeP_swap];exact Z _ _<|(mem_nb h.ok).1 M⟩
def NodeR(nd x:Int):Prop:=0<=x/\x<nd
theorem OneE.more(h:OneE nd es es' u v):MoreE (NodeR nd) (nbG nd es) (nbG nd es') u v:=by
 have Z:=h.ends
 unfold endsP at Z
 exact moreE_of ⟨Z.1,Z.2.2.1⟩ ⟨Z.2.1,Z.2.2.2.1⟩ Z.2.2.2.2 (nb_nodup nd es) (nb_nodup nd es') h.nuv.1 h.nuv.2 h.nb
theorem cntN_meet(Z:GrOk nd es)(l:List Int)(x:Int):cntN (nbG nd es) (λy=>decide (y∈l)) x=(meetL (nbG nd es x) l).length:=by
 unfold cntN
 refine ((List.perm_ext_iff_of_nodup ((nb_nodup nd es x).filter _) ?_).2 λy=>?_).length_eq
 ·unfold meetL;exact ((ofL_asc _).imp λh=>by omega:(ofL<|nbG nd es x).Nodup).filter _
 rw [mem_meetL,List.mem_filter,decide_eq_true_eq]
theorem coreN_is(M:GrOk nd es):IsCore (NodeR nd) (nbG nd es) λx=>(e_ (coreN nd es) x).toNat:=by
 intro x hx k
 have hr:=M.rng
 show k<=(e_ (coreN nd es) x).toNat↔_
 constructor
 ·intro hk
  by_cases h0:k=0
  ·subst h0
   exact ⟨λy=> @decide (NodeR nd y) (Classical.propDecidable _),⟨λy Z=> @of_decide_eq_true _ (Classical.propDecidable _) Z,λ_ _=>Nat.zero_le _⟩, @decide_eq_true _ (Classical.propDecidable _) hx⟩
  obtain ⟨W,h1,h2,h3⟩:=core_some M (k:=k) om
  refine ⟨λy=>decide<|y∈eo W,⟨λy Z=>?_,λy Z=>?_⟩,decide_eq_true<|h3 x hx.1 hx.2 om⟩
  ·have Z:=of_decide_eq_true Z;exact ⟨(Eo Z).1,h2 y Z⟩
  have Z:=of_decide_eq_true Z
  rw [cntN_meet M,←deg_meet M (W:=W) (λz=>Iff.rfl) (Eo Z).1 (h2 y Z)]
  exact h1 y Z
 rintro ⟨X,hX,ad⟩
 have hm:∀y,y∈sideL nd.toNat X↔X y=true:=λy=>by
  rw [mem_sideL]
  exact ⟨λh=>h.2,λh=>⟨by have:=hX.dom y h;unfold NodeR at this;omega,h⟩⟩
 have hl:=mask_list hr.2 (l:=sideL nd.toNat X) λy Z=>by have:=hX.dom y ((hm y).1 Z);unfold NodeR at this;exact this
 have hc:ClosB (ek nd es) k (maskB<|sideL nd.toNat X):=λy Z=>by
  have aa:=(hm y).1 ((hl y).1 Z)
  have ab:=hX.dom y aa
  rw [deg_meet M hl ab.1 ab.2,←cntN_meet M]
  refine Nat.le_trans (hX.deg y aa)<|cntN_mono λz _ hz=>decide_eq_true<|(hm z).2 hz
 have:=core_clos M hc (λy Z=>(hX.dom y<|(hm y).1 ((hl y).1 Z)).2) ((hl x).2 ((hm x).2 ad))
 omega
theorem IsCore.uniq{V:Int->Prop}{nb:Int->List Int}{n m:Int->Nat}(h:IsCore V nb n)(M:IsCore V nb m)(Z:V x):n x=m x:=
 Nat.le_antisymm ((M x Z _).2 ((h x Z _).1 (Nat.le_refl _))) ((h x Z _).2 ((M x Z _).1 (Nat.le_refl _)))
end
theorem mem_orB2{a b:BitVec 64}{u:Int}:u∈eo (a ||| b)↔u∈eo a\/u∈eo b:=by
 simp only [D0,BitVec.getLsbD_or,Bool.or_eq_true]
 constructor
 ·rintro ⟨Z,h2|h2⟩
  ·exact .inl ⟨Z,h2⟩
  exact .inr ⟨Z,h2⟩
 rintro (⟨Z,h2⟩|⟨Z,h2⟩)
 ·exact ⟨Z,.inl h2⟩
 exact ⟨Z,.inr h2⟩
section
variable {nd:Int}{es es':List Pt}{u v k:Int}{F S A:BitVec 64}
theorem degB_cnt(Z:GrOk nd es){W:BitVec 64}(M:NodeR nd x):degB (ek nd es) W x=cntN (nbG nd es) (λy=>decide (y∈eo W)) x:=by
 rw [cntN_meet Z,deg_meet Z (W:=W) (λz=>Iff.rfl) M.1 M.2]
structure SetR (rows:List (BitVec 64)) (F A:BitVec 64) (k:Int) (S:BitVec 64):Prop where
 sub:∀x∈eo S,x∈eo F
 deg:∀x∈eo S,k<=((degB rows (S ||| A) x:Nat):Int)
 most:∀T:BitVec 64,(∀x∈eo T,x∈eo F)->(∀x∈eo T,k<=((degB rows (T ||| A) x:Nat):Int))->∀x∈eo T,x∈eo S
structure RegR (nd:Int) (es:List Pt) (N:List Int) (u v k:Int) (F:BitVec 64):Prop where
 lev:∀x∈eo F,NodeR nd x/\e_ N x=k
 hu:e_ N u=k->u∈eo F
 hv:e_ N v=k->v∈eo F
 cl:∀x∈eo F,∀y∈nbG nd es x,e_ N y=k->y∈eo F
theorem maskT(M:GrOk nd es){T:Int->Bool}(Z:∀x,T x=true->NodeR nd x)(x:Int):x∈eo (maskB (sideL nd.toNat T))↔T x=true:=by
 have hr:=M.rng
 rw [mask_list hr.2 (l:=sideL nd.toNat T) (λy hy=>Z y (mem_sideL.1 hy).2),mem_sideL]
 exact ⟨λh=>h.2,λh=>⟨by have:=Z x h;unfold NodeR at this;omega,h⟩⟩
theorem core_comes(h:OneE nd es es' u v)(hk:k=min (e_ (coreN nd es) u) (e_ (coreN nd es) v))(hF:RegR nd es' (coreN nd es) u v k F)(hA:∀x,x∈eo A↔NodeR nd x/\k<e_ (coreN nd es) x)(hS:SetR (ek nd es') F A (k+1) S)
  {x:Int} (hx:NodeR nd x):e_ (coreN nd es') x=e_ (coreN nd es) x+if x∈eo S then 1 else 0:=by
 have he:=h.ends
 unfold endsP at he
 have hp:=λy (Z:NodeR nd y)=>core_pos h.ok Z.1 Z.2
 have ad:=λy (Z:NodeR nd y)=>core_pos h.ok' Z.1 Z.2
 have hu:NodeR nd u:=⟨he.1,he.2.2.1⟩
 have hv:NodeR nd v:=⟨he.2.1,he.2.2.2.1⟩
 have pu:=hp u hu
 have pv:=hp v hv
 have hX:∀(T:BitVec 64) y,(decide (y∈eo T)||upN (NodeR nd) (λx=>(e_ (coreN nd es) x).toNat) (k.toNat+1) y)=decide (y∈eo (T ||| A)):=λT y=>by
  rw [Bool.eq_iff_iff,or_t,upN_t,decide_eq_true_iff,decide_eq_true_iff,mem_orB2,hA]
  constructor
  ·rintro (M|⟨M,h2⟩)
   ·exact .inl M
   exact .inr ⟨M,by omega⟩
  rintro (M|⟨M,h2⟩)
  ·exact .inl M
  exact .inr ⟨M,by have:=hp y M;omega⟩
 have hc:=core_ins (coreN_is h.ok) h.more (λa b ha hb ae=>nb_sym h.ok' ae) (k:=k.toNat) om (R:=λy=>decide<|y∈eo F) (S:=λy=>decide<|y∈eo S)
  (λy Z=>by have:=hF.lev y (of_decide_eq_true Z);exact ⟨this.1,by omega⟩) (λe=>decide_eq_true<|hF.hu om) (λe=>decide_eq_true<|hF.hv om)
  (λy z Z hz ai ak=>decide_eq_true<|hF.cl y (of_decide_eq_true Z) z hz<|by have:=hp z ai;omega)
  (λy Z=>decide_eq_true<|hS.sub y<|of_decide_eq_true Z)
  (λy Z=>by
   have Z:=of_decide_eq_true Z
   have ah:=(hF.lev y<|hS.sub y Z).1
   simp only [hX]
   rw [←degB_cnt h.ok' ah]
   have:=hS.deg y Z;omega)
  (λT ab aj y Z=>by
   have aa:∀z,T z=true->NodeR nd z:=λz hz=>(hF.lev z<|of_decide_eq_true<|ab z hz).1
   have hm:=maskT h.ok' aa
   refine decide_eq_true<|hS.most (maskB<|sideL nd.toNat T) (λz hz=>of_decide_eq_true<|ab z<|(hm z).1 hz) (λz hz=>?_) y<|(hm y).2 Z
   have hz:=(hm z).1 hz
   rw [degB_cnt h.ok' (aa z hz)]
   have h3:=aj z hz
   have h4:(λy=>T y||upN (NodeR nd) (λx=>(e_ (coreN nd es) x).toNat) (k.toNat+1) y)=λy=>decide (y∈eo (maskB (sideL nd.toNat T) ||| A)):=funext λy=>by
    rw [←hX];congr 1
    rw [Bool.eq_iff_iff,decide_eq_true_iff];exact (hm y).symm
   rw [h4] at h3;omega)
 have M:(e_ (coreN nd es') x).toNat=(e_ (coreN nd es) x).toNat+if decide (x∈eo S)=true then 1 else 0:=(coreN_is h.ok').uniq hc hx
 have h2:=hp x hx
 have h3:=ad x hx
 by_cases hs:x∈eo S
 ·rw [if_pos (decide_eq_true hs)] at M;rw [if_pos hs];omega
 rw [if_neg (λq=>hs<|of_decide_eq_true q)] at M;rw [if_neg hs];omega
theorem core_goes(h:OneE nd es es' u v)(hk:k=min (e_ (coreN nd es') u) (e_ (coreN nd es') v))(hF:RegR nd es' (coreN nd es') u v k F)(hA:∀x,x∈eo A↔NodeR nd x/\k<=e_ (coreN nd es') x/\x∉eo F)(hS:SetR (ek nd es) F A k S)
  {x:Int} (hx:NodeR nd x):e_ (coreN nd es) x=e_ (coreN nd es') x - if x∈eo F/\x∉eo S then 1 else 0:=by
 have he:=h.ends
 unfold endsP at he
 have hp:=λy (Z:NodeR nd y)=>core_pos h.ok Z.1 Z.2
 have M:=λy (Z:NodeR nd y)=>core_pos h.ok' Z.1 Z.2
 have hu:NodeR nd u:=⟨he.1,he.2.2.1⟩
 have hv:NodeR nd v:=⟨he.2.1,he.2.2.2.1⟩
 have pu:=M u hu
 have pv:=M v hv
 have hX:∀(T:BitVec 64) y,(decide (y∈eo T)||(upN (NodeR nd) (λx=>(e_ (coreN nd es') x).toNat) k.toNat y && !decide (y∈eo F)))=decide (y∈eo (T ||| A)):=λT y=>by
  rw [Bool.eq_iff_iff,or_t,and_t,upN_t,decide_eq_true_iff,decide_eq_true_iff,mem_orB2,hA,Bool.not_eq_true',decide_eq_false_iff_not]
  constructor
  ·rintro (h1|⟨⟨h1,h2⟩,h3⟩)
   ·exact .inl h1
   exact .inr ⟨h1,by have:=M y h1;omega,h3⟩
  rintro (h1|⟨h1,h2,h3⟩)
  ·exact .inl h1
  exact .inr ⟨⟨h1,by have:=M y h1;omega⟩,h3⟩
 have aj:=h.more.pos (coreN_is h.ok')
 have hc:=core_del (coreN_is h.ok') h.more (λa b ha hb ad=>nb_sym h.ok' ad) (k:=k.toNat) om (R:=λy=>decide<|y∈eo F) (S:=λy=>decide<|y∈eo S)
  (λy Z=>by have:=hF.lev y (of_decide_eq_true Z);exact ⟨this.1,by omega⟩) (λe=>decide_eq_true<|hF.hu om) (λe=>decide_eq_true<|hF.hv om)
  (λy z Z hz ah ak=>decide_eq_true<|hF.cl y (of_decide_eq_true Z) z hz<|by have:=M z ah;omega)
  (λy Z=>decide_eq_true<|hS.sub y<|of_decide_eq_true Z)
  (λy Z=>by
   have Z:=of_decide_eq_true Z
   have ae:=(hF.lev y<|hS.sub y Z).1
   simp only [hX]
   rw [←degB_cnt h.ok ae]
   have:=hS.deg y Z;omega)
  (λT ab ai y Z=>by
   have aa:∀z,T z=true->NodeR nd z:=λz hz=>(hF.lev z<|of_decide_eq_true<|ab z hz).1
   have hm:=maskT h.ok aa
   refine decide_eq_true<|hS.most (maskB<|sideL nd.toNat T) (λz hz=>of_decide_eq_true<|ab z<|(hm z).1 hz) (λz hz=>?_) y<|(hm y).2 Z
   have hz:=(hm z).1 hz
   rw [degB_cnt h.ok (aa z hz)]
   have h3:=ai z hz
   have h4:(λy=>T y||(upN (NodeR nd) (λx=>(e_ (coreN nd es') x).toNat) k.toNat y && !decide (y∈eo F)))=λy=>decide (y∈eo (maskB (sideL nd.toNat T) ||| A)):=funext λy=>by
    rw [←hX];congr 1
    rw [Bool.eq_iff_iff,decide_eq_true_iff];exact (hm y).symm
   rw [h4] at h3;omega)
 have h1:(e_ (coreN nd es) x).toNat=(e_ (coreN nd es') x).toNat - if decide (x∈eo F)=true/\decide (x∈eo S)≠true then 1 else 0:=(coreN_is h.ok).uniq hc hx
 have h2:=hp x hx
 have h3:=M x hx
 by_cases hs:x∈eo F/\x∉eo S
 ·have hl:=(hF.lev x hs.1).2
  rw [if_pos ⟨decide_eq_true hs.1,λq=>hs.2<|of_decide_eq_true q⟩] at h1;rw [if_pos hs];omega
 rw [if_neg (λq=>hs ⟨of_decide_eq_true q.1,λq2=>q.2<|decide_eq_true q2⟩)] at h1;rw [if_neg hs];omega
end
end Go.Sl
namespace Go.Sl
end Go.Sl
namespace Go.Sl
open Go.Proofs
set_option maxRecDepth 4000
end Go.Sl
