/- A part of the proofs of statements of this seat: contracts of functions, and the plain laws that they lean on. No conditions. -/
import Derived.Test.YtoagcglbkeomgaaGreatDoorQ9
import Derived.ScopeJumps
set_option linter.unusedVariables false
set_option linter.unusedSimpArgs false
set_option linter.unusedSectionVars false
open Go.Proofs.Tryz (prog)
open List (replicate)
namespace Go.Sl
open Go.Proofs
set_option maxRecDepth 4000
variable{m:BitVec 64}{bs:List Nat}
variable {κ:Ctx}{I:List Item}
theorem tz_small(m:BitVec 64):0<=tzTab.getD (tzIx m) 0/\tzTab.getD (tzIx m) 0<=64:=by
 have h:∀k:Fin 64,0<=tzTab.getD k.val 0/\tzTab.getD k.val 0<=64:=by decide+kernel
 exact h ⟨tzIx m,tzIx_lt m⟩
theorem Tz_ok(m:BitVec 64)(M:TabRd κ I 0 tzCells):eu prog κ 177 [U64 m] I (λr J=>r=e7 (tzB m)/\I=J):=by
 refine Ce1 Tryz.func177 C C ?_
 refine Af<|Ga C<|Ad<|Ap<|Af<|Gm C<|Gr (Runs.eqB (a:=m) (b:=0#64) C C)<|Ad<|A8 C (λZ=>?_)<|λZ=>?_
 ·exact Af<|Ga C<|Ad<|Ay<|Aq<|A1 C C I Av ⟨by unfold tzB;rw [if_pos Z],rfl⟩
 exact Aw<|Ah<|Af<|Gm C<|Gm C<|Gr (Runs.negB (a:=m) C)<|Gr (Eb (a:=m) (b:= -m) C C)<|Gr (Runs.mulB (a:=m &&& (-m)) (b:=285870213051353865#64) C C)<|Gr (E9 (a:=(m &&& (-m))*285870213051353865#64) C C om om)<|Gr (Runs.idxArrU (i:=tzIx m) Tryz.underlying241 ty5 C C<|tzIx_lt m)<|Gr (Runs.loadTab ty5 C (Bg M Av)<|tzCells_at m)<|Gr (Runs.convI E8 Cb C<|by unfold InR;have:=tz_small m;omega)<|Ga C<|Ad<|Am (S1 2 C)<|Ay<|A1 C C I Av ⟨by unfold tzB;rw [if_neg Z],rfl⟩
theorem Least_ok(m:BitVec 64)(Z:TabRd κ I 0 tzCells):eu prog κ 158 [U64 m] I (λr J=>r=e7 (tzB m)/\I=J):=by
 refine Ce1 Tryz.func158 C C ?_
 refine Af<|Ga C<|Ad<|Af<|Gm C<|G.e (Aj c_ C C<|Tz_ok m<|Bg Z Av) ?_
 rintro _ _ ⟨_,_,⟨rfl,rfl⟩,rfl,rfl⟩
 exact Ga C<|Ad<|Ay<|A1 C C I Av ⟨rfl,rfl⟩
theorem MList_ok(m:BitVec 64)(hT:TabRd κ I 0 tzCells):eu prog κ 159 [U64 m] I (λr J=>∃a c,r = .slice a (eo m).length c/\J=vc 3 (.slice a (eo m).length c) (eo m)::I):=by
 refine Ce1 Tryz.func159 C C ?_
 refine Af<|Ga C<|Ad<|Af<|Ga C<|Ad<|Ap<|A0<|B1 (σ:=(BitVec 64)×(Option Addr)×Nat×(List Int)) (λs=>([(0,U64<|s.1),(3,.slice s.2.1 s.2.2.2.length s.2.2.1)]:Env)) (λs=>vc 3 (.slice s.2.1 s.2.2.2.length s.2.2.1) (s.2.2.2)::I) (λs=>(eo m=s.2.2.2++eo s.1)) (λs=>(eo s.1).length) (m,none,0,[]) (show (eo m=([]:List Int)++eo (m:BitVec 64)) from rfl) (Aa (Dd C<|by first|rfl|simp)<|Aa (Dd C<|by first|rfl|simp) Bl) (show Fit κ _ (vc 3 (.slice none ([]).length 0) (([]))::I) from (Cm _ _)) ?_
 rintro ⟨n,a,c,out⟩ hp
 dsimp only at hp ⊢
 have ho:=hp
 have ad:=congrArg List.length ho
 rw [List.length_append] at ad
 have ah:=Em m
 refine Ap<|Af<|Gm C<|Gr (Runs.neB (a:=n) (b:=0#64) C C)<|Ad<|A8 C (λZ=>?_)<|λZ=>?_
 ·refine Aw (Ah<|Ap<|A0<|Au<|Gm C<|Gm C<|G.e (Aj c_ C C<|Tz_ok n<|Bg hT Av) ?_)
  rintro _ _ ⟨_,_,⟨rfl,rfl⟩,rfl,rfl⟩
  refine Ge1 (Co (α:=Int) (cs:=[_]) (xs:=[tzB n]) Ab ef C C dc dc C C C C) λae=>?_
  refine Ge2 (Cp (α:=Int) (e:=3) (xs:=out) (ys:=([tzB n]:List Int)) Ab ef C C C mm Bh lcn dc C<|λ_ _=>am) λaa ab=>?_
  exact Ga C<|Bo<|Al<|Ah<|Au<|Gm C<|Gm C<|Gr (Runs.subB (a:=n) (b:=1#64) C C)<|Gr (Eb (a:=n) (b:=n - (1#64)) C C)<|Ga C<|Bo<|Cf ((n &&& (n - (1#64))),(aa),(ab),(out++([tzB n]:List Int))) (by dsimp only;exact (by rw [ho,listB_step Z,List.append_assoc];rfl)) (hlt:=by (try dsimp only);exact (listB_less Z))
 refine Bx<|Ao<|Ao<|A9<|Ah<|Af<|Gm C<|Ga C<|Ad<|Ay ?_
 have M:n=0#64:=Classical.not_not.1 Z
 have hE:out=eo m:=by rw [ho,M,D0,List.append_nil]
 subst hE
 exact A1 C C (vc 3 (.slice a (eo m).length c) (eo m)::I) Bf ⟨a,c,rfl,rfl⟩
theorem ones1_val(M:bs.length=8)(hb:∀b∈bs,b<256)(hm:m.toNat=valN bs):(ones1 m).toNat=valN (bs.map p1):=by
 unfold ones1
 have Z:valN (bs.map p1)<=repN 255 8:=by
  have:=valN_le (c:=255) (bs.map p1) λb h=>by obtain ⟨x,hx,rfl⟩:=List.mem_map.1 h;have:=(b1 ⟨x,hb x hx⟩).1;simp only at this;omega
  rwa [List.length_map,M] at this
 rw [BitVec.toNat_add,BitVec.toNat_and,BitVec.toNat_and,BitVec.toNat_ushiftRight,Nat.shiftRight_eq_div_pow,show 2 ^ (1:Int).toNat=2 from rfl,hm,show (6148914691236517205#64).toNat=repN 85 bs.length by rw [M];decide+kernel,step1 bs hb]
 exact Nat.mod_eq_of_lt<|Nat.lt_of_le_of_lt Z<|by decide+kernel
theorem ones2_val(M:bs.length=8)(hb:∀b∈bs,b<256/\p2 b<256)(hm:m.toNat=valN bs):(ones2 m).toNat=valN (bs.map p2):=by
 unfold ones2
 have Z:valN (bs.map p2)<=repN 255 8:=by
  have:=valN_le (c:=255) (bs.map p2) λb h=>by obtain ⟨x,hx,rfl⟩:=List.mem_map.1 h;have:=(hb x hx).2;omega
  rwa [List.length_map,M] at this
 rw [BitVec.toNat_add,BitVec.toNat_and,BitVec.toNat_and,BitVec.toNat_ushiftRight,Nat.shiftRight_eq_div_pow,show 2 ^ (2:Int).toNat=4 from rfl,hm,show (3689348814741910323#64).toNat=repN 51 bs.length by rw [M];decide+kernel,step2 bs λb h=>(hb b h).1]
 exact Nat.mod_eq_of_lt<|Nat.lt_of_le_of_lt Z<|by decide+kernel
theorem ones3_val(Z:bs.length=8)(M:∀b∈bs,b % 16<=4/\b / 16<=4)(hm:m.toNat=valN bs):(ones3 m).toNat=valN (bs.map p3):=by
 unfold ones3
 have aa:valN bs<=repN 68 8:=by
  have:=valN_le (c:=68) bs λb h=>by have:=M b h;omega
  rwa [Z] at this
 have hr:repN 68 8=4919131752989213764:=by decide+kernel
 rw [BitVec.toNat_and,BitVec.toNat_add,BitVec.toNat_ushiftRight,Nat.shiftRight_eq_div_pow,show 2 ^ (4:Int).toNat=16 from rfl,hm,show (1085102592571150095#64).toNat=repN 15 bs.length by rw [Z];decide+kernel,Nat.mod_eq_of_lt om,step3 bs M]
theorem ones_pop(m:BitVec 64):onesB m=((eo m).length:Int):=by
 unfold onesB
 have M:=bytesN_len m.toNat 8
 have hlt:=bytesN_lt m.toNat 8
 have hv:=bytesN_val 8 m.toNat (Nat.lt_of_lt_of_le m.isLt dc)
 generalize bytesN m.toNat 8=bs at M hlt hv
 have hb:=λb (h:b∈bs)=>b1 ⟨b,hlt b h⟩
 have e1:=ones1_val M hlt hv.symm
 have e2:=ones2_val (bs:=bs.map p1) (by rw [List.length_map,M]) (λb h=>by obtain ⟨x,hx,rfl⟩:=List.mem_map.1 h;have:=hb x hx;simp only at this;exact ⟨this.1,by omega⟩) e1
 have e3:=ones3_val (bs:=(bs.map p1).map p2) (by rw [List.length_map,List.length_map,M]) (λb h=>by obtain ⟨y,hy,rfl⟩:=List.mem_map.1 h;obtain ⟨x,hx,rfl⟩:=List.mem_map.1 hy;have:=hb x hx;simp only at this;exact ⟨this.2.1,this.2.2.1⟩) e2
 generalize ones3 (ones2<|ones1 m)=a at e3
 have hc:valN bs=m.toNat:=hv
 have Z:=cnt_val bs hlt
 obtain ⟨f1,f2⟩:=fold_all (n:=a.toNat) (n4:=a.toNat+a.toNat / 256) (n5:=a.toNat+a.toNat / 256+(a.toNat+a.toNat / 256) / 65536) (n6:=a.toNat+a.toNat / 256+(a.toNat+a.toNat / 256) / 65536+(a.toNat+a.toNat / 256+(a.toNat+a.toNat / 256) / 65536) / 4294967296)
  (bs:=((bs.map p1).map p2).map p3) (by rw [List.length_map,List.length_map,List.length_map,M]) (λb h=>by obtain ⟨z,hz,rfl⟩:=List.mem_map.1 h;obtain ⟨y,hy,rfl⟩:=List.mem_map.1 hz;obtain ⟨x,hx,rfl⟩:=List.mem_map.1 hy;have:=hb x hx;simp only at this;exact this.2.2.2.1) e3 rfl rfl rfl
 have g4:(ones4 a).toNat=a.toNat+a.toNat / 256:=by
  unfold ones4;rw [BitVec.toNat_add,BitVec.toNat_ushiftRight,Nat.shiftRight_eq_div_pow,show 2 ^ (8:Int).toNat=256 from rfl];exact Nat.mod_eq_of_lt om
 have g5:(ones5<|ones4 a).toNat=a.toNat+a.toNat / 256+(a.toNat+a.toNat / 256) / 65536:=by
  unfold ones5;rw [BitVec.toNat_add,BitVec.toNat_ushiftRight,Nat.shiftRight_eq_div_pow,show 2 ^ (16:Int).toNat=65536 from rfl,g4];exact Nat.mod_eq_of_lt om
 have g6:(ones6<|ones5<|ones4 a).toNat=a.toNat+a.toNat / 256+(a.toNat+a.toNat / 256) / 65536+(a.toNat+a.toNat / 256+(a.toNat+a.toNat / 256) / 65536) / 4294967296:=by
  unfold ones6;rw [BitVec.toNat_add,BitVec.toNat_ushiftRight,Nat.shiftRight_eq_div_pow,show 2 ^ (32:Int).toNat=4294967296 from rfl,g5];exact Nat.mod_eq_of_lt om
 have hL:(eo m).length=sumN' (((bs.map p1).map p2).map p3):=by
  unfold eo listN
  rw [List.length_map,List.map_map,List.map_map,show (λi=>m.getLsbD i)=λj=>(valN bs).testBit j from by funext j;rw [hc];rfl]
  rw [M] at Z
  exact Z
 rw [g6,hL,←f1]
 omega
def meetL(xs ys:List Int):List Int:=(ofL xs).filter λx=>decide (x∈ys)
theorem mem_meetL{xs ys:List Int}{x:Int}:x∈meetL xs ys↔x∈xs/\x∈ys:=by simp [meetL,mem_ofL]
end Go.Sl
namespace Go.Sl
end Go.Sl
namespace Go.Sl
end Go.Sl
namespace Go.Sl
theorem D.fit{P:Program}{κ:Ctx}{N:Frm}{ops:Array Oper}{Q:Exit->Act->World->Prop}{I J H:List Item}{L:Env}{stop fuel:Nat}{Z:Array Bool}(hf:Fit κ I J)(h:D P κ N ops Q H stop fuel Z L J):D P κ N ops Q H stop fuel Z L I:=λa w M hs=>h a w M (hf w hs)
section
variable {α:Type}[Enc α]{κ:Ctx}{I:List Item}
theorem Fit.takevc{e:TypeId}{a:Option Addr}{n c k:Nat}{xs:List α}(hn:n=xs.length):Fit κ (vc e (.slice a n c) xs::I) (vc e (.slice a (xs.take k).length c) (xs.take k)::I):=by
 subst hn
 refine Fit.upd (At.head _ _ _) λw h=>⟨?_,λj ⟨o,m,c',hv,M⟩=>?_⟩
 ·obtain ⟨a',cap,hv,h1,h2,h3,h4⟩:=h
  cases hv
  refine ⟨a,c,rfl,cells_length _,by rw [List.length_take];omega,h3,λM=>?_⟩
  obtain ⟨b,off,Z,ha,hb,h5,h6⟩:=h4 M
  refine ⟨b,off,Z,ha,hb,h5,λj u hj=>h6 j u ?_⟩
  have e1:cells xs=cells (xs.take k)++cells (xs.drop k):=by rw [←cells_append,List.take_append_drop]
  rw [e1,List.getElem?_append_left (List.getElem?_eq_some_iff.1 hj).1];exact hj
 cases hv;exact ⟨o,_,c,rfl,M⟩
def ownR(e:TypeId)(rs:List (RowG α)):List Item:=rs.map λr=>vc e (.slice r.a r.xs.length r.c) r.xs
end
end Go.Sl
namespace Go.Sl
open Go.Proofs
set_option maxRecDepth 4000
variable{es:List Pt}{nd v:Int}{va:Value}
variable {κ:Ctx}{I:List Item}
def rowG(nd:Int)(es:List Pt)(v:Int):BitVec 64:=if v<0\/((ek nd es).length:Int)<=v\/checkG nd es≠0 then 0#64 else e_ (ek nd es) v
def nbL(es:List Pt)(v:Int):List Int:=es.flatMap λe=>(if e.u=v then [e.v] else [])++(if e.v=v then [e.u] else [])
theorem nbL_take{k:Nat}(h:k<es.length)(v:Int):nbL (es.take (k+1)) v=nbL (es.take k) v++((if (e_ es k).u=v then [(e_ es k).v] else [])++(if (e_ es k).v=v then [(e_ es k).u] else [])):=by
 unfold nbL;rw [Cl es k h,List.flatMap_append];simp
theorem mem_nbL{x:Int}:x∈nbL es v↔(⟨v,x⟩:Pt)∈es\/(⟨x,v⟩:Pt)∈es:=by
 unfold nbL
 rw [List.mem_flatMap]
 constructor
 ·rintro ⟨⟨a,b⟩,Z,M⟩
  rcases List.mem_append.1 M with h|h
  ·split at h
   ·rename_i h1;simp only [List.mem_singleton] at h;simp only at h1;subst h h1;exact .inl Z
   simp at h
  split at h
  ·rename_i h1;simp only [List.mem_singleton] at h;simp only at h1;subst h h1;exact .inr Z
  simp at h
 rintro (h|h)
 ·exact ⟨_,h,by simp⟩
 exact ⟨_,h,by simp⟩
def nbG(nd:Int)(es:List Pt)(v:Int):List Int:=if checkG nd es≠0 then [] else ofL (nbL es v)
theorem nb_eq(nd:Int)(es:List Pt)(v:Int):eo (rowG nd es v)=nbG nd es v:=by
 by_cases hc:checkG nd es≠0
 ·unfold rowG nbG;rw [if_pos (.inr<|.inr hc),if_pos hc,D0]
 have Z:=checkG_ok.1 (Classical.not_not.1 hc)
 have hr:=Z.rng
 have hl:=Z.rows.len
 unfold nbG
 rw [if_neg hc]
 refine intLin.uniq (listB_asc _) (ofL_asc _) λx=>?_
 rw [Dv,mem_ofL,mem_nbL]
 by_cases hv:v<0\/((ek nd es).length:Int)<=v
 ·have M:rowG nd es v=0#64:=if_pos om
  rw [M]
  simp only [BitVec.getLsbD_zero,Bool.false_eq_true,and_false,false_iff]
  rintro (h|h)
  ·have:=Z.edge _ h;simp only at this;omega
  have:=Z.edge _ h;simp only at this;omega
 have M:rowG nd es v=e_ (ek nd es) v:=if_neg om
 rw [M]
 by_cases hx:0<=x/\x<64
 ·rw [Z.rows.bit v x om om hx.1 hx.2,decide_eq_true_eq]
  exact ⟨λh=>h.2,λh=>⟨hx.1,h⟩⟩
 constructor
 ·rintro ⟨h1,h2⟩
  rw [BitVec.getLsbD_of_ge _ _ om] at h2
  exact absurd h2 dc
 rintro (h|h)
 ·have:=Z.edge _ h;simp only at this;omega
 have:=Z.edge _ h;simp only at this;omega
theorem nbG_len(nd:Int)(es:List Pt)(v:Int):(nbG nd es v).length<=64:=by rw [←nb_eq];exact Em _
theorem listB_and(a b:BitVec 64):eo (a &&& b)=meetL (eo a) (eo b):=by
 refine intLin.uniq (listB_asc _) ((ofL_asc _).sublist List.filter_sublist) λx=>?_
 rw [mem_meetL,Dv,Dv,Dv,BitVec.getLsbD_and,Bool.and_eq_true]
 exact ⟨λh=>⟨⟨h.1,h.2.1⟩,h.1,h.2.2⟩,λh=>⟨h.1.1,h.1.2,h.2.2⟩⟩
theorem degree_eq(nd:Int)(es:List Pt)(v:Int):onesB (rowG nd es v)=((nbG nd es v).length:Int):=by rw [ones_pop,nb_eq]
def commonG(nd:Int)(es:List Pt)(u v:Int):List Int:=if u=v then [] else meetL (nbG nd es u) (nbG nd es v)
theorem common_eq{u:Int}(h:u≠v):eo (rowG nd es u &&& rowG nd es v)=commonG nd es u v:=by
 unfold commonG;rw [if_neg h,listB_and,nb_eq,nb_eq]
def FindP(nd:Int)(es:List Pt)(u v y:Int):Prop:=(checkG nd es=0/\∃j:Nat,y=(j:Int)/\j<es.length/\e_ es j=edgeP u v)\/(y = -1/\(checkG nd es≠0\/edgeP u v∉es))
theorem all_tab:∀n:Fin 65,∀i:Fin 64,(allB (n.val:Int)).getLsbD i.val=decide (i.val<n.val):=by decide+kernel
theorem getLsb_allB{n:Int}(Z:0<=n)(M:n<=64){i:Nat}(hi:i<64):(allB n).getLsbD i=decide ((i:Int)<n):=by
 have:=all_tab ⟨n.toNat,by omega⟩ ⟨i,hi⟩
 simp only [show ((n.toNat:Nat):Int)=n by omega] at this
 rw [this,decide_eq_decide];omega
theorem GRowG_ok(hl:Sl κ I va es)(v:Int):eu prog κ 165 [.agg #[e7 nd,va],e7 v] I (λr J=>r=U64 (rowG nd es v)/\I=J):=by
 refine Ce2 Tryz.func165 C C ?_
 refine Af<|Ge1 (Bc (cs:=[_,_]) C C C) λb1=>Ga C<|Ad<|Af<|Gl2 ty38 ?_
 refine G.e (Aj c_ C C<|MRows_ok (nd:=nd)<|A6 hl) ?_
 rintro _ _ ⟨_,_,⟨ae,ad,rfl,rfl⟩,rfl,rfl⟩
 have Z:=rowsB_len nd es
 refine Ga C<|Ad<|Ap<|Af<|Gm C<|Gr (Bb C C)<|Gm C<|Br (d:=10) C (λM=>?_)<|λM=>?_
 ·exact eb<|eb<|eb<|eb<|Gr (A3 C C)<|Gm C<|eb<|eb<|eb<|Gr (A3 C C)<|Ad<|Am (S3 20 5 1 C C C)<|Dp C<|Af<|Ga C<|Ad<|Ay<|Aq<|A1 C C I Av ⟨by rw [show rowG nd es v=0#64 from if_pos om];rfl,rfl⟩
 refine e9 (Ai C)<|e9 (Ai C)<|e9 (Bj B3 C)<|e9 (C3 C C)<|Gr (Bd C C)<|Gm C<|Br (d:=16) C (λaa=>?_)<|λaa=>?_
 ·exact eb<|eb<|eb<|Gr (A3 C C)<|Ad<|Am (S3 20 5 1 C C C)<|Dp C<|Af<|Ga C<|Ad<|Ay<|Aq<|A1 C C I Av ⟨by rw [show rowG nd es v=0#64 from if_pos om];rfl,rfl⟩
 refine e9 (A5 (vs:=[_,_]) ty38) ?_
 refine Dm (Ch C C C) (Aj c_ C C<|CheckGen_ok<|A6 hl) ?_
 rintro _ _ ⟨_,_,⟨rfl,rfl⟩,rfl,rfl⟩
 refine e9 (Bn C C)<|Gr (Bd C C)<|Ad<|Am (S3 20 5 1 C C C)<|A8 C (λab=>?_)<|λab=>?_
 ·exact Af<|Ga C<|Ad<|Ay<|Aq<|A1 C C I Av ⟨by rw [show rowG nd es v=0#64 from if_pos om];rfl,rfl⟩
 exact Aw<|Ah<|Af<|Gm C<|Gm C<|Gr (Az (α:=(BitVec 64)) (xs:=ek nd es) B3 ty207 C C Bh om om)<|Gr (B4 (α:=(BitVec 64)) (xs:=ek nd es) (u:=U64 ((e_ (ek nd es) v))) ty207 C Bh om om C)<|Ga C<|Ad<|Ay<|A1 C C I Av ⟨by rw [show rowG nd es v=e_ (ek nd es) v from if_neg om],rfl⟩
theorem NeighG_ok(hl:Sl κ I va es)(v:Int)(hT:TabRd κ I 0 tzCells):eu prog κ 164 [.agg #[e7 nd,va],e7 v] I (λr J=>∃a c,r = .slice a (nbG nd es v).length c/\J=vc 3 (.slice a (nbG nd es v).length c) (nbG nd es v)::I):=by
 refine Ce2 Tryz.func164 C C ?_
 refine Af<|Ge1 (Bc (cs:=[_,_]) C C C) λb1=>Ga C<|Ad<|Af<|Gl2 ty38 ?_
 refine Gm C<|G.e (Aj c_ C C<|GRowG_ok (nd:=nd) (A6 hl) v) ?_
 rintro _ _ ⟨_,_,⟨rfl,rfl⟩,rfl,rfl⟩
 refine Gc2 (Aj c_ C C<|MList_ok (rowG nd es v)<|Bg hT Av) λM Z=>?_
 refine Ga C<|Ad<|Ay ?_
 have hX:(nbG nd es v)=_:=(nb_eq nd es v).symm
 exact A1 C C (vc 3 (.slice M (nbG nd es v).length Z) (nbG nd es v)::I) (by rw [hX];exact Bf) ⟨M,Z,by rw [hX],rfl⟩
theorem DegreeG_ok(Z:Sl κ I va es)(v:Int):eu prog κ 136 [.agg #[e7 nd,va],e7 v] I (λr J=>r=e7 ((((nbG nd es v).length:Nat)):Int)/\I=J):=by
 refine Ce2 Tryz.func136 C C ?_
 refine Af<|Ge1 (Bc (cs:=[_,_]) C C C) λb1=>Ga C<|Ad<|Af<|Gl2 ty38 ?_
 refine Gm C<|G.e (Aj c_ C C<|GRowG_ok (nd:=nd) (A6 Z) v) ?_
 rintro _ _ ⟨_,_,⟨rfl,rfl⟩,rfl,rfl⟩
 refine Gc0 (Aj c_ C C<|MCount_ok<|rowG nd es v) ?_
 exact Ga C<|Ad<|Ay<|A1 C C I Av ⟨by rw [degree_eq],rfl⟩
theorem CommonG_ok(hl:Sl κ I va es)(u v:Int)(hT:TabRd κ I 0 tzCells):eu prog κ 178 [.agg #[e7 nd,va],e7 u,e7 v] I (λr J=>∃a c,r = .slice a (commonG nd es u v).length c/\J=vc 3 (.slice a (commonG nd es u v).length c) (commonG nd es u v)::I):=by
 refine Ce3 Tryz.func178 C C ?_
 refine Af<|Ge1 (Bc (cs:=[_,_]) C C C) λb1=>Ga C<|Ad<|Ap<|Af<|Gm C<|Gm C<|Gr (Bs C C)<|Ad<|A8 C (λc9=>?_)<|λc9=>?_
 ·refine Af (Ga C<|Ad<|Ay<|Aq ?_)
  have hX:(commonG nd es u v)=[]:=if_pos c9
  exact A1 C C (vc 3 (.slice none (commonG nd es u v).length 0) (commonG nd es u v)::I) (by rw [hX];exact Cv (show Fit κ _ I from Av)<|Cm (α:=Int) _ _) ⟨none,0,by rw [hX];rfl,rfl⟩
 refine Aw<|Ah<|Ap<|Bq mixed<|Cc (e8 b1 [e7 nd,va] 38::I) 9<|Dr 0 C (A5 (vs:=[_,_]) ty38) ?_
 refine Dr 1 C (Ai C)<|Dr 3 C (A5 (vs:=[_,_]) ty38) ?_
 refine Dr 4 C (Ai C)<|Ds1 2<|Se C (Aj c_ C C<|GRowG_ok (nd:=nd) (A6 hl) u) ?_
 rintro _ _ ⟨_,_,⟨rfl,rfl⟩,rfl,rfl⟩
 refine ⟨Bf,?_⟩
 refine Ds1 5<|Se C (Aj c_ C C<|GRowG_ok (nd:=nd) (A6 hl) v) ?_
 rintro _ _ ⟨_,_,⟨rfl,rfl⟩,rfl,rfl⟩
 refine ⟨Bf,?_⟩
 refine Dr 6 C (Eb (a:=rowG nd es u) (b:=rowG nd es v) C C)<|Ds1 7<|Sc2 C (Aj c_ C C<|MList_ok ((rowG nd es u) &&& (rowG nd es v))<|Bg hT Av) λM Z=>?_
 refine Dr 8 C (Ba C)<|Dz<|Ah<|Am (S1 6 C)<|Ay ?_
 have hX:(commonG nd es u v)=_:=(common_eq c9).symm
 exact A1 C C (vc 3 (.slice M (commonG nd es u v).length Z) (commonG nd es u v)::I) (by rw [hX];exact Bf) ⟨M,Z,by rw [hX],rfl⟩
theorem FindG_ok(hl:Sl κ I va es)(u v:Int)(hb:es.length<=1000000000):eu prog κ 151 [.agg #[e7 nd,va],e7 u,e7 v] I (λr J=>∃y:Int,r=e7 y/\FindP nd es u v y/\I=J):=by
 refine Ce3 Tryz.func151 C C ?_
 refine Af<|Ge1 (Bc (cs:=[_,_]) C C C) λb1=>Ga C<|Ad<|Ap<|Af<|Gl2 ty38 ?_
 refine Gm C<|Gm C<|G.e (Aj c_ C C<|Place_ok (A6 hl) u v om) ?_
 rintro _ _ ⟨_,_,⟨i2,q3,rfl,aa,rfl⟩,rfl,rfl⟩
 refine Gm C<|Gr (Ak C C)<|Gr (Ak C C)<|Ga C<|Ga C<|Ad<|Am (S3 8 7 3 C C C)<|Af<|Gm C<|Gm C<|Br (d:=17) C (λZ=>?_)<|λZ=>?_
 ·refine e9 (A5 (vs:=[_,_]) ty38) ?_
  refine Dm (Ch C C C) (Aj c_ C C<|CheckGen_ok<|A6 hl) ?_
  rintro _ _ ⟨_,_,⟨rfl,rfl⟩,rfl,rfl⟩
  refine e9 (Bs C C)<|Gr (A3 C C)<|Ad<|A8 C (λM=>?_)<|λM=>?_
  ·exact Af<|Gm C<|Ga C<|Ad<|Ay<|Aq<|A1 C C I Av ⟨_,rfl,.inl ⟨M,i2,rfl,Z.1,Z.2⟩,rfl⟩
  refine Aw<|Ah<|Af<|Ga C<|Ad<|Ay ?_
  have hn:checkG nd es≠0\/edgeP u v∉es:=(Decidable.em<|checkG nd es=0).elim (λhc=> .inr λhm=>by first|exact M hc|exact Z ((aa.mem (checkG_ok.1 hc).asc).2 hm)) .inl
  exact A1 C C I Av ⟨_,rfl,.inr ⟨rfl,hn⟩,rfl⟩
 refine eb<|eb<|eb<|Gr (Bd C C)<|Ad<|Dw C<|Aw<|Ah<|Af<|Ga C<|Ad<|Ay ?_
 have hn:checkG nd es≠0\/edgeP u v∉es:=(Decidable.em<|checkG nd es=0).elim (λhc=> .inr λhm=>by first|exact M hc|exact Z ((aa.mem (checkG_ok.1 hc).asc).2 hm)) .inl
 exact A1 C C I Av ⟨_,rfl,.inr ⟨rfl,hn⟩,rfl⟩

end Go.Sl
namespace Go.Sl
section
variable {P:Program}{κ:Ctx}{N:Frm}{Q:Exit->Act->World->Prop}{L:Env}{I:List Item}
theorem wp_scope_ghost{c rest:Code}{a:Act}{w:World}(l:Nat){σ:Type}(R:σ->Act->World->Prop)(μ:σ->Nat)(hf:findLabel c l=some rest)
  (first:c.wp P (Exit.jump l (λa w=>∃s,R s a w) Q) a w)
  (pass:∀s a w,R s a w->rest.wp P (Exit.jump l (λa' w'=>∃s',R s' a' w'/\μ s'<μ s) Q) a w):(Code.scope c).wp P Q a w:=by
 intro b k cs
 have hg:gotoIn l (.inScope c::k)=some (.code rest :: .inScope c::k):=by simp [gotoIn,hf]
 have ab:∀n s a w,μ s=n->R s a w->∃e a' w',Q e a' w'/\Arrives P (lone (b.at a<|.code rest :: .inScope c::k) cs w) b k cs e a' w':=by
  intro n
  induction n using Nat.strongRecOn with
  |_ n ih=>
   intro s a w hn hR
   obtain ⟨e,a₁,w₁,hq,Z⟩:=pass s a w hR b (.inScope c::k) cs
   cases e with
   |normal=>exact ⟨.normal,a₁,w₁,hq,Steps.trans Z<|.one step_inScope⟩
   |exit id=>exact ⟨.exit id,a₁,w₁,hq,λk' hk=>Z k'<|by simp [exitTo,hk]⟩
   |goto l'=>
    obtain ⟨rfl,s',ad,hlt⟩:=hq
    obtain ⟨e₂,a₂,w₂,aa,M⟩:=ih _ (by omega) s' a₁ w₁ rfl ad
    exact ⟨e₂,a₂,w₂,aa,.of_steps (Z _ hg) M⟩
   |ret=>exact ⟨_,a₁,w₁,hq,Z⟩
   |panic ch=>exact ⟨_,a₁,w₁,hq,Z⟩
   |outgrown=>exact ⟨_,a₁,w₁,hq,Z⟩
 obtain ⟨e,a₁,w₁,hq,Z⟩:=first b (.inScope c::k) cs
 cases e with
 |normal=>exact ⟨.normal,a₁,w₁,hq,.head step_scope<|Steps.trans Z<|.one step_inScope⟩
 |exit id=>exact ⟨.exit id,a₁,w₁,hq,λk' hk=> .head step_scope<|Z k'<|by simp [exitTo,hk]⟩
 |goto l'=>
  obtain ⟨rfl,s,hR⟩:=hq
  obtain ⟨e₂,a₂,w₂,aa,M⟩:=ab _ s a₁ w₁ rfl hR
  exact ⟨e₂,a₂,w₂,aa,.of_steps (.head step_scope<|Z _ hg) M⟩
 |ret=>exact ⟨_,a₁,w₁,hq,.of_steps (.one step_scope) Z⟩
 |panic ch=>exact ⟨_,a₁,w₁,hq,.of_steps (.one step_scope) Z⟩
 |outgrown=>exact ⟨_,a₁,w₁,hq,.of_steps (.one step_scope) Z⟩
theorem V.jump_ret{l:Nat}{K:Act->World->Prop}(h:V κ N Q .ret L I):V κ N (Exit.jump l K Q) .ret L I:=h
end
end Go.Sl
namespace Go.Sl
section
variable {P:Program}{κ:Ctx}{N:Frm}{Q:Exit->Act->World->Prop}{L:Env}{I:List Item}
theorem W.scope0{c rest:Code}{l:Nat}(M:findLabel c l=some rest)(h:W P κ N c (Exit.jump l (λ_ _=>∃s:Unit,False) Q) L I):W P κ N (.scope c) Q L I:=λa w ha hs=>
 wp_scope_ghost l (fun (_:Unit) _ _=>False) (λ_=>0) M (h a w ha hs) λ_ _ _ Z=>Z.elim
theorem W.label{l:Nat}(h:V κ N Q .normal L I):W P κ N (.label l) Q L I:=λa w Z hs=>wp_label (h a w Z hs)
end
end Go.Sl
namespace Go.Sl
open Go.Proofs
set_option maxRecDepth 4000
variable{n:Nat}{nd v:Int}{rows:List (BitVec 64)}{es:List Pt}{va:Value}
def coreR0(nd:Int)(es:List Pt):List (Int×Nat):=coreR (ek nd es) (allB ((ek nd es).length:Int)) 0
def coreL(nd:Int)(es:List Pt):List Int:=numL (ek nd es).length (coreR0 nd es)
def coreO(nd:Int)(es:List Pt):List Int:=ordL (coreR0 nd es)
def coreN(nd:Int)(es:List Pt):List Int:=if checkG nd es≠0 then [] else coreL nd es
theorem mem_allN(h:n<=64){u:Int}:u∈eo (allB (n:Int))↔0<=u/\u<n:=by
 constructor
 ·intro hu
  have Z:=En hu
  rw [Dv,getLsb_allB om om om,decide_eq_true_eq] at hu
  omega
 intro hu
 rw [Dv,getLsb_allB om om om,decide_eq_true_eq]
 omega
theorem coreL_len(nd:Int)(es:List Pt):(coreL nd es).length=(ek nd es).length:=numL_len _ _
theorem ordL_len(l:List (Int×Nat)):(ordL l).length=l.length:=List.length_map ..
theorem bit_sh(Z:0<=v)(M:v<64):bitB v=1#64 <<< v.toNat:=by unfold bitB;rw [if_neg om]
theorem deg_full(h:SymB n rows){k:Int}(Z:0<=k)(M:k<n):onesB (e_ rows k)=((degB rows (allB (n:Int)) k:Nat):Int):=by
 rw [ones_pop]
 unfold degB
 congr 1
 refine ((List.perm_ext_iff_of_nodup (Dh _)<|Dh _).2 λu=>?_).length_eq
 rw [mem_andB]
 refine ⟨λhu=>⟨hu,(mem_allN h.le).2 ⟨(En hu).1,h.lt k u Z M hu⟩⟩,λhu=>hu.1⟩
theorem degB_all(h:SymB n rows)(hn:1<=n)(left:BitVec 64)(v:Int):degB rows left v<=n - 1:=by
 by_cases hv:v.toNat<n
 ·have e:e_ rows v=e_ rows v.toNat:=by show rows.getD v.toNat _=rows.getD ((v.toNat:Nat):Int).toNat _;rw [Int.toNat_natCast]
  have:=degB_lt h left (v:=(v.toNat:Int)) om om
  unfold degB at this ⊢
  rw [e];omega
 have e:e_ rows v=0#64:=by
  unfold e_
  rw [List.getD_eq_getElem?_getD,List.getElem?_eq_none (by rw [h.len];omega)];rfl
 unfold degB
 rw [e,BitVec.zero_and,D0];simp
theorem rows_sym(Z:GrOk nd es):SymB (ek nd es).length (ek nd es):=by
 have h:=Z.rows.symB Z
 have e:=h.len
 rw [←e] at h;exact h
theorem core_step{left:BitVec 64}{Z dd:Nat}{done:List (Int×Nat)}{all:List (Int×Nat)}(hc:done++coreR rows left Z=all)(M:Takes rows left v)(hd:degB rows left v=dd) :
  (done++[(v,max Z dd)])++coreR rows (left &&& ~~~(1#64 <<< v.toNat)) (max Z dd)=all:=by
 rw [←hc,coreR_step M,hd,List.append_assoc];rfl
theorem cnt_allN(h:n<=64):(eo (allB (n:Int))).length=n:=by
 have Z:(eo (allB (n:Int))).Perm ((List.range n).map fun (i:Nat)=>(i:Int)):=(List.perm_ext_iff_of_nodup (Dh _) (by
  exact List.Pairwise.map _ (λa b h=>by omega) (List.nodup_range (n:=n)))).2 λu=>by
  rw [mem_allN h,List.mem_map]
  constructor
  ·intro hu;exact ⟨u.toNat,List.mem_range.2 om,by omega⟩
  rintro ⟨i,hi,rfl⟩;have:=List.mem_range.1 hi;omega
 have:=Z.length_eq
 rwa [List.length_map,List.length_range] at this
set_option maxHeartbeats 2000000 in
theorem CPeel_ok{κ:Ctx}{I:List Item}(hl:Sl κ I va es)(hG:GrOk nd es)(hT:TabRd κ I 0 tzCells):eu prog κ 129 [.agg #[e7 nd,va]] I (λr J=>∃a c a' c',r = .tuple #[.slice a (coreO nd es).length c,.slice a' (coreL nd es).length c']/\J=vc 3 (.slice a (coreO nd es).length c) (coreO nd es)::vc 3 (.slice a' (coreL nd es).length c') (coreL nd es)::I):=by
 have hS:=rows_sym hG
 have bz:=hS.le
 refine Ce1 Tryz.func129 C C ?_
 refine Af<|Ge1 (Bc (cs:=[_,_]) C C C) λb1=>Ga C<|Ga C<|Ad<|W.scope0 (l:=0) C ?_
 refine Af<|Gl2 ty38 ?_
 refine G.e (Aj c_ C C<|MRows_ok (nd:=nd)<|A6 hl) ?_
 rintro _ _ ⟨_,_,⟨ab,ad,rfl,rfl⟩,rfl,rfl⟩
 have bf:=rowsB_len nd es
 refine Ga C<|Ad<|Af<|Ge1 (A2 ty208 C) λb4=>?_
 show G prog κ _ _ _ _ ([(5,.pointer<|some ⟨b4,0,none⟩),(4,.slice ab (ek nd es).length ad),(16,.slice ab (ek nd es).length ad),(15,.agg #[e7 nd,va]),(3,.slice none 0 0),(2,.slice none 0 0),(1,.pointer<|some ⟨b1,0,none⟩),(0,.agg #[e7 nd,va])]:Env) (e8 b4 (cells (replicate 64 (0#64):List (BitVec 64))) 208::vc 207 (.slice ab (ek nd es).length ad) (ek nd es)::e8 b1 [e7 nd,va] 38::I)
 refine Ad<|Af<|Gm C<|Gr (Bj B3 C)<|Ge2 (E1 (α:=Int) (n:=(ek nd es).length) Ab ef C C C om om dc C) λae ah=>?_
 refine Ga C<|Ad<|Ap<|Af<|Gm C<|Gr (Bj B3 C)<|Gm C<|Ad<|Am (S7 22 21 20 6 5 4 2 C C C C C C C)<|A0<|B1 (σ:=Nat×(List Int)×(List<|BitVec 64)) (λs=>([(2,.slice none 0 0),(4,.slice ab (ek nd es).length ad),(5,.pointer<|some ⟨b4,0,none⟩),(6,.slice ae (replicate ((ek nd es).length) (default:Int)).length ah),(20,.slice ab (ek nd es).length ad),(21,e7<|(((ek nd es).length:Nat):Int)),(22,e7 ((s.1:Nat):Int))]:Env)) (λs=>vc 3 (.slice ae (replicate ((ek nd es).length) (default:Int)).length ah) (s.2.1)::e8 b4 (cells (s.2.2:List (BitVec 64))) 208::vc 207 (.slice ab (ek nd es).length ad) (ek nd es)::e8 b1 [e7 nd,va] 38::I) (λs=>(s.1<=(ek nd es).length)/\(BkOk (ek nd es).length (λu=>0<=u/\u<((s.1:Nat):Int)) (degB (ek nd es)<|allB ((ek nd es).length:Int)) s.2.1 s.2.2)) (λs=>(ek nd es).length - s.1) (0,replicate ((ek nd es).length) (default:Int),replicate 64<|0#64) (show ((0:Nat)<=(ek nd es).length)/\(BkOk (ek nd es).length (λu=>0<=u/\u<(((0:Nat):Nat):Int)) (degB (ek nd es)<|allB ((ek nd es).length:Int)) (replicate ((ek nd es).length) (default:Int):List Int) (replicate 64 (0#64):List (BitVec 64))) from ⟨om,(BkOk.start _ _)⟩) (Aa C<|Aa C<|Aa C<|Aa C<|Aa C<|Aa C<|Aa Cd Bl) (show Fit κ _ (vc 3 (.slice ae (replicate ((ek nd es).length) (default:Int)).length ah) ((replicate ((ek nd es).length) (default:Int)))::e8 b4 (cells ((replicate 64<|0#64):List (BitVec 64))) 208::vc 207 (.slice ab (ek nd es).length ad) (ek nd es)::e8 b1 [e7 nd,va] 38::I) from Bf) ?_
 rintro ⟨k,dgs,bks⟩ hp
 dsimp only at hp ⊢
 obtain ⟨hk,hB⟩:=hp
 have b8:=hB.dlen
 have b7:=hB.blen
 have a6:k<(ek nd es).length->onesB (e_ (ek nd es) k)=((degB (ek nd es) (allB ((ek nd es).length:Int)) (k:Int):Nat):Int):=λh=>deg_full hS om om
 have a1:k<(ek nd es).length->((degB (ek nd es) (allB ((ek nd es).length:Int)) (k:Int):Nat):Int)<64:=λh=>by have:=degB_lt hS (allB ((ek nd es).length:Int)) (v:=(k:Int)) om om;omega
 refine Af<|Gr (Bb C C)<|Ad<|Ap<|A8 C (λbm=>?_)<|λbm=>?_
 ·refine Aw (Ah<|Ap<|A0<|Af<|Gm C<|Gr (Az (α:=(BitVec 64)) (xs:=ek nd es) B3 ty207 C C Bh om oo)<|Gr (B4 (α:=(BitVec 64)) (xs:=ek nd es) (u:=U64 ((e_ (ek nd es) k))) ty207 C Bh om oo C)<|Ga C<|Ga C<|Ad<|Af<|Gm C<|Gm C<|Gm C<|Gc0 (Aj c_ C C<|MCount_ok<|e_ (ek nd es) k) ?_)
  refine Gr (Az (α:=Int) (xs:=dgs) Ab ef C C Bh om oo)<|Ge0 (Cx (α:=Int) (xs:=dgs) (e:=3) (new:=onesB (e_ (ek nd es) k)) ef C C C om oo am) ?_
  have bc:=a6 om
  have bg:=a1 om
  have a5:e_ (List.set dgs ((k:Int)).toNat (onesB<|e_ (ek nd es) k)) (k:Int)=((degB (ek nd es) (allB ((ek nd es).length:Int)) (k:Int):Nat):Int):=by rw [Ef _ _ _ _ om om om,if_pos rfl,bc]
  refine Ad<|Am (S8 7 2 4 5 6 20 21 22 C C C C C C C C)<|Bq mixed<|Cc (vc 3 (.slice ae (replicate ((ek nd es).length) (default:Int)).length ah) (List.set dgs ((k:Int)).toNat (onesB<|e_ (ek nd es) k))::e8 b4 (cells (bks:List (BitVec 64))) 208::vc 207 (.slice ab (ek nd es).length ad) (ek nd es)::e8 b1 [e7 nd,va] 38::I) 10<|Dr 0 C (Ai C)<|Dr 1 C (Ai C)<|Dr 2 C (Az (α:=Int) (xs:=List.set dgs ((k:Int)).toNat (onesB<|e_ (ek nd es) k)) Ab ef C C Bh om oo)<|Dr 3 C (Bw (xs:=List.set dgs ((k:Int)).toNat (onesB<|e_ (ek nd es) k)) ef C Bh om oo)<|Dr 4 C (B7 C5 ty207 C C om oo)<|Dr 5 C (Fc (xs:=bks) ty207 C (Dy mm) om oo)<|Dr 6 C (Ai C)<|Ds1 7<|Se C (Aj c_ C C<|Bit_ok (k:Int)) ?_
  rintro _ _ ⟨_,_,⟨rfl,rfl⟩,rfl,rfl⟩
  refine ⟨Av,?_⟩
  refine Dr 8 C (D8 (a:=e_ bks (e_ (List.set dgs ((k:Int)).toNat (onesB<|e_ (ek nd es) k)) (k:Int))) (b:=bitB (k:Int)) C C)<|Dr 9 C (B7 C5 ty207 C C om oo)<|Ct kr ?_
  refine Ae 10 C (Eff.setAU (xs:=bks) (i:=e_ (List.set dgs ((k:Int)).toNat (onesB<|e_ (ek nd es) k)) (k:Int)) (n:=(e_ bks<|e_ (List.set dgs ((k:Int)).toNat (onesB<|e_ (ek nd es) k)) (k:Int)) ||| (bitB (k:Int))) ty207 C C C om oo am) ?_
  rintro _ _ ⟨rfl,rfl⟩
  refine Cu kr ?_
  exact Al<|Ah<|Am (S7 2 4 5 6 20 21 22 C C C C C C C)<|Au<|Gr (Rad C C)<|Gm C<|Bo<|Cf ((k+1),(List.set dgs ((k:Int)).toNat (onesB<|e_ (ek nd es) k)),(List.set bks (e_ (List.set dgs ((k:Int)).toNat (onesB<|e_ (ek nd es) k)) (k:Int)).toNat ((e_ bks<|e_ (List.set dgs ((k:Int)).toNat (onesB<|e_ (ek nd es) k)) (k:Int)) ||| (bitB (k:Int)))))<|by dsimp only;exact ⟨om,(by have hN:=hB.push (S':=λu=>0<=u/\u<((k+1:Nat):Int)) (v:=(k:Int)) (c:=((degB (ek nd es) (allB ((ek nd es).length:Int)) (k:Int):Nat):Int)) om om om (λu=>by constructor<;>intro h<;>omega) (λh=>by omega) C (a1 om);rw [a5,a6 om,bit_sh om om];exact hN)⟩
 refine Bx<|Ao<|Ao<|A9<|Ah<|Af<|Gm C<|Gr (Bj B3 C)<|Ge2 (E1 (α:=Int) (n:=(ek nd es).length) Ab ef C C C om om dc C) λai aj=>?_
 refine Ga C<|Ad<|Af<|Gm C<|Gr (Bj B3 C)<|Gc0 (Aj c_ C C<|MaskAll_ok (((ek nd es).length:Nat):Int)) ?_
 refine Ga C<|Ad<|Am (S6 9 3 2 4 5 6 C C C C C C)<|Af<|Ga C<|Ad<|Ap<|W.label ?_
 refine Ah<|Ap<|A0<|B1 (σ:=(List<|Int×Nat)×(BitVec 64)×Nat×(List Int)×(List<|BitVec 64)×(Option Addr)×Nat) (λs=>([(2,.slice s.2.2.2.2.2.1 (ordL s.1).length s.2.2.2.2.2.2),(3,.slice ai (replicate ((ek nd es).length) (default:Int)).length aj),(4,.slice ab (ek nd es).length ad),(5,.pointer<|some ⟨b4,0,none⟩),(6,.slice ae (replicate ((ek nd es).length) (default:Int)).length ah),(9,U64<|s.2.1),(10,e7 ((s.2.2.1:Nat):Int))]:Env)) (λs=>vc 3 (.slice s.2.2.2.2.2.1 (ordL s.1).length s.2.2.2.2.2.2) (ordL s.1)::vc 3 (.slice ai (replicate ((ek nd es).length) (default:Int)).length aj) (numL (ek nd es).length s.1)::vc 3 (.slice ae (replicate ((ek nd es).length) (default:Int)).length ah) (s.2.2.2.1)::e8 b4 (cells (s.2.2.2.2.1:List (BitVec 64))) 208::vc 207 (.slice ab (ek nd es).length ad) (ek nd es)::e8 b1 [e7 nd,va] 38::I) (λs=>(s.1++coreR (ek nd es) s.2.1 s.2.2.1=coreR0 nd es)/\(BkOk (ek nd es).length (λu=>u∈eo s.2.1) (degB (ek nd es) s.2.1) s.2.2.2.1 s.2.2.2.2.1)/\(s.1.length+(eo s.2.1).length=(ek nd es).length)/\(s.2.2.1<=63)) (λs=>(eo s.2.1).length) ([],(allB ((ek nd es).length:Int)),0,dgs,bks,none,0) (show (([]:List (Int×Nat))++coreR (ek nd es) ((allB ((ek nd es).length:Int)):BitVec 64) (0:Nat)=coreR0 nd es)/\(BkOk (ek nd es).length (λu=>u∈eo ((allB ((ek nd es).length:Int)):BitVec 64)) (degB (ek nd es) ((allB ((ek nd es).length:Int)):BitVec 64)) (dgs:List Int) (bks:List (BitVec 64)))/\(([]:List (Int×Nat)).length+(eo ((allB ((ek nd es).length:Int)):BitVec 64)).length=(ek nd es).length)/\((0:Nat)<=63) from ⟨rfl,(hB.congr (λu=>(mem_allN hS.le).trans (by constructor<;>intro h<;>omega))<|λu _=>rfl),(by have:(eo<|allB ((ek nd es).length:Int)).length=(ek nd es).length:=cnt_allN hS.le;simp only [List.length_nil];omega),om⟩) (Aa (Dd C<|by first|rfl|(rw [ordL_snoc])|simp)<|Aa C<|Aa C<|Aa C<|Aa C<|Aa (Dd C<|by first|rfl|(rw [ordL_snoc])|simp)<|Aa Cd Bl) (show Fit κ _ (vc 3 (.slice none (ordL<|[]).length 0) (ordL<|[])::vc 3 (.slice ai (replicate ((ek nd es).length) (default:Int)).length aj) (numL (ek nd es).length ([]))::vc 3 (.slice ae (replicate ((ek nd es).length) (default:Int)).length ah) ((dgs))::e8 b4 (cells ((bks):List (BitVec 64))) 208::vc 207 (.slice ab (ek nd es).length ad) (ek nd es)::e8 b1 [e7 nd,va] 38::I) from (Cv (Cm (α:=Int) _ _) Bm)) ?_
 rintro ⟨done,left,kk,ap,aa,ao,co⟩ hp
 dsimp only at hp ⊢
 obtain ⟨hc,av,ca,b2⟩:=hp
 have br:=av.dlen
 have bu:=av.blen
 have hold:=ordL_len done
 have b5:=numL_len (ek nd es).length done
 have aw:∀u∈eo left,degB (ek nd es) left u<64:=λu hu=>by have hr:=av.rng u hu;have:=degB_lt hS left hr.1 hr.2;omega
 refine Ap<|Af<|Gm C<|Gr (Runs.neB (a:=left) (b:=0#64) C C)<|Ad<|A8 C (λba=>?_)<|λba=>?_
 ·refine Aw (Ah<|A0<|Af<|Gm C<|Ad<|A0<|B1 (σ:=Nat) (λs=>([(2,.slice ao (ordL done).length co),(3,.slice ai (replicate ((ek nd es).length) (default:Int)).length aj),(4,.slice ab (ek nd es).length ad),(5,.pointer<|some ⟨b4,0,none⟩),(6,.slice ae (replicate ((ek nd es).length) (default:Int)).length ah),(9,U64 left),(10,e7<|(kk:Int)),(51,e7 ((s:Nat):Int))]:Env)) (λs=>vc 3 (.slice ao (ordL done).length co) (ordL done)::vc 3 (.slice ai (replicate ((ek nd es).length) (default:Int)).length aj) (numL (ek nd es).length done)::vc 3 (.slice ae (replicate ((ek nd es).length) (default:Int)).length ah) (ap)::e8 b4 (cells (aa:List (BitVec 64))) 208::vc 207 (.slice ab (ek nd es).length ad) (ek nd es)::e8 b1 [e7 nd,va] 38::I) (λs=>(s<=64)/\(∀c:Int,0<=c->c<((s:Nat):Int)->e_ aa c=0#64)) (λs=>64 - s) 0 (show ((0:Nat)<=64)/\(∀c:Int,0<=c->c<(((0:Nat):Nat):Int)->e_ aa c=0#64) from ⟨om,(λc h1 h2=>by omega)⟩) (Aa C<|Aa C<|Aa C<|Aa C<|Aa C<|Aa C<|Aa C<|Aa Cd Bl) (show Fit κ _ (vc 3 (.slice ao (ordL done).length co) (ordL done)::vc 3 (.slice ai (replicate ((ek nd es).length) (default:Int)).length aj) (numL (ek nd es).length done)::vc 3 (.slice ae (replicate ((ek nd es).length) (default:Int)).length ah) (ap)::e8 b4 (cells (aa:List (BitVec 64))) 208::vc 207 (.slice ab (ek nd es).length ad) (ek nd es)::e8 b1 [e7 nd,va] 38::I) from Bf) ?_)
  rintro dd hp
  obtain ⟨cb,hz⟩:=hp
  refine Af<|Gr (Bb C C)<|Ad<|Ap<|A8 C (λbh=>?_)<|λbh=>?_
  ·refine Aw (Ah<|Ap<|A0<|Af<|Gm C<|Ga C<|Ad<|Ap<|Af<|Gm C<|Gr (B7 C5 ty207 C C om oo)<|Gr (Fc (xs:=aa) ty207 C (Dy mm) om oo)<|Gr (Runs.eqB (a:=e_ aa dd) (b:=0#64) C C)<|Ad<|Am (S10 57 11 2 3 4 5 6 9 10 51 C C C C C C C C C C)<|A8 C (λbb=>?_)<|λbb=>?_)
   ·exact Bx<|Ao<|A9<|Ah<|Au<|Gr (Rad C C)<|Gm C<|Bo<|Cf ((dd+1)) ⟨om,(λc h1 h2=>by by_cases e:c=(dd:Int);(· rw [e];assumption);(· exact hz c h1 om))⟩
   refine Aw<|Ah<|Af<|Gm C<|Gr (B7 C5 ty207 C C om oo)<|Gr (Fc (xs:=aa) ty207 C (Dy mm) om oo)<|Gc0 (Aj c_ C C<|Least_ok (e_ aa dd)<|Bg hT Av) ?_
   have a7:=av.takes (d:=(dd:Int)) om om bb hz aw
   generalize hvE:tzB (e_ aa dd)=v at a7 ⊢
   obtain ⟨a8,bo⟩:=a7
   have ax:=a8.mem
   have b6:=av.rng v ax
   refine Ga C<|Ad<|Am (S9 12 11 2 3 4 5 6 9 10 C C C C C C C C C)<|Af<|Gm C<|Gm C<|Gr (Do C C) ?_
   have bi:(if (kk:Int)<(dd:Int) then (dd:Int) else (kk:Int))=(((max kk dd):Nat):Int):=by split<;>omega
   rw [bi]
   refine Ga C<|Ad<|Am (S9 10 12 11 2 3 4 5 6 9 C C C C C C C C C)<|Af<|Gm C<|Gm C<|Gm C<|Gr (Az (α:=Int) (xs:=numL (ek nd es).length done) Ab ef C C Bh om oo)<|Ge0 (Cx (α:=Int) (xs:=numL (ek nd es).length done) (e:=3) (new:=(((max kk dd):Nat):Int)) ef C C C om oo am) ?_
   refine Ad<|Af<|Gm C<|Gm C<|Ge1 (Co (α:=Int) (cs:=[_]) (xs:=[v]) Ab ef C C dc dc C C C C) λaz=>?_
   refine Ge2 (Cp (α:=Int) (e:=3) (xs:=ordL done) (ys:=([v]:List Int)) Ab ef C C C mm Bh lcn dc C<|λ_ _=>am) λan ak=>?_
   refine Ga C<|Ad<|Am (S9 2 10 12 11 3 4 5 6 9 C C C C C C C C C)<|Af<|Gm C<|Gm C<|G.e (Aj c_ C C<|Bit_ok v) ?_
   rintro _ _ ⟨_,_,⟨rfl,rfl⟩,rfl,rfl⟩
   rw [show bitB v=1#64 <<< (v).toNat from bit_sh om om]
   refine Gr (Et (a:=left) (b:=1#64 <<< (v).toNat) C C)<|Ga C<|Ad<|Am (S9 9 2 10 12 11 3 4 5 6 C C C C C C C C C)<|Ap<|Bq mixed<|Cc (vc 3 (.slice az 1 1) (([v]:List Int))::vc 3 (.slice an ((ordL done)++([v]:List Int)).length ak) ((ordL done)++([v]:List Int))::vc 3 (.slice ai (replicate ((ek nd es).length) (default:Int)).length aj) (List.set (numL (ek nd es).length done) (v).toNat ((((max kk dd):Nat):Int)))::vc 3 (.slice ae (replicate ((ek nd es).length) (default:Int)).length ah) (ap)::e8 b4 (cells (aa:List (BitVec 64))) 208::vc 207 (.slice ab (ek nd es).length ad) (ek nd es)::e8 b1 [e7 nd,va] 38::I) 7<|Dr 0 C (Ai C)<|Dr 1 C (B7 C5 ty207 C C om oo)<|Dr 2 C (Fc (xs:=aa) ty207 C (Dy mm) om oo)<|Dr 3 C (Ai C)<|Ds1 4<|Se C (Aj c_ C C<|Bit_ok v) ?_
   rintro _ _ ⟨_,_,⟨rfl,rfl⟩,rfl,rfl⟩
   refine ⟨Av,?_⟩
   rw [show bitB v=1#64 <<< (v).toNat from bit_sh om om]
   refine Dr 5 C (Et (a:=e_ aa dd) (b:=1#64 <<< (v).toNat) C C)<|Dr 6 C (B7 C5 ty207 C C om oo)<|Ct kr ?_
   refine Ae 7 C (Eff.setAU (xs:=aa) (i:=(dd:Int)) (n:=(e_ aa dd) &&& ~~~(1#64 <<< (v).toNat)) ty207 C C C om oo am) ?_
   rintro _ _ ⟨rfl,rfl⟩
   refine Cu kr ?_
   refine Ah<|Am (S8 9 2 10 12 3 4 5 6 C C C C C C C C)<|Ap<|Af<|Gm C<|Gm C<|Gr (Az (α:=(BitVec 64)) (xs:=ek nd es) B3 ty207 C C Bh om oo)<|Gr (B4 (α:=(BitVec 64)) (xs:=ek nd es) (u:=U64 ((e_ (ek nd es) v))) ty207 C Bh om oo C)<|Gm C<|Gr (Eb (a:=(e_ (ek nd es) v)) (b:=left &&& ~~~(1#64 <<< (v).toNat)) C C)<|Gc2 (Aj c_ C C<|MList_ok ((e_ (ek nd es) v) &&& (left &&& ~~~(1#64 <<< (v).toNat)))<|Bg hT Av) λar aq=>?_
   refine Gr (Bj Ab C)<|Gm C<|Ad<|Am (S10 92 91 90 9 2 10 3 4 5 6 C C C C C C C C C C)<|A0<|B1 (σ:=Nat×(List Int)×(List<|BitVec 64)) (λs=>([(2,.slice an ((ordL done)++([v]:List Int)).length ak),(3,.slice ai (replicate ((ek nd es).length) (default:Int)).length aj),(4,.slice ab (ek nd es).length ad),(5,.pointer<|some ⟨b4,0,none⟩),(6,.slice ae (replicate ((ek nd es).length) (default:Int)).length ah),(9,U64<|left &&& ~~~(1#64 <<< (v).toNat)),(10,e7<|(((max kk dd):Nat):Int)),(90,.slice ar (eo<|(e_ (ek nd es) v) &&& (left &&& ~~~(1#64 <<< (v).toNat))).length aq),(91,e7<|(((eo<|(e_ (ek nd es) v) &&& (left &&& ~~~(1#64 <<< (v).toNat))).length:Nat):Int)),(92,e7 ((s.1:Nat):Int))]:Env)) (λs=>vc 3 (.slice ar (eo<|(e_ (ek nd es) v) &&& (left &&& ~~~(1#64 <<< (v).toNat))).length aq) (eo<|(e_ (ek nd es) v) &&& (left &&& ~~~(1#64 <<< (v).toNat)))::vc 3 (.slice az 1 1) (([v]:List Int))::vc 3 (.slice an ((ordL done)++([v]:List Int)).length ak) ((ordL done)++([v]:List Int))::vc 3 (.slice ai (replicate ((ek nd es).length) (default:Int)).length aj) (List.set (numL (ek nd es).length done) (v).toNat ((((max kk dd):Nat):Int)))::vc 3 (.slice ae (replicate ((ek nd es).length) (default:Int)).length ah) (s.2.1)::e8 b4 (cells (s.2.2:List (BitVec 64))) 208::vc 207 (.slice ab (ek nd es).length ad) (ek nd es)::e8 b1 [e7 nd,va] 38::I) (λs=>(s.1<=(eo<|e_ (ek nd es) v &&& (left &&& ~~~(1#64 <<< (v).toNat))).length)/\(BkOk (ek nd es).length (λu=>u∈eo (left &&& ~~~(1#64 <<< (v).toNat))) (degM (ek nd es) left (eo<|e_ (ek nd es) v &&& (left &&& ~~~(1#64 <<< (v).toNat))) s.1) s.2.1 s.2.2)) (λs=>(eo<|e_ (ek nd es) v &&& (left &&& ~~~(1#64 <<< (v).toNat))).length - s.1) (0,ap,List.set aa ((dd:Int)).toNat ((e_ aa dd) &&& ~~~(1#64 <<< (v).toNat))) (show ((0:Nat)<=(eo<|e_ (ek nd es) v &&& (left &&& ~~~(1#64 <<< (v).toNat))).length)/\(BkOk (ek nd es).length (λu=>u∈eo (left &&& ~~~(1#64 <<< (v).toNat))) (degM (ek nd es) left (eo<|e_ (ek nd es) v &&& (left &&& ~~~(1#64 <<< (v).toNat))) (0:Nat)) (ap:List Int) (List.set aa ((dd:Int)).toNat ((e_ aa dd) &&& ~~~(1#64 <<< (v).toNat)):List (BitVec 64))) from ⟨om,((av.drop ax bo om<|λu=>mem_minus om).congr (λu=>Iff.rfl) (λu _=>degM_zero _ _ _ u))⟩) (Aa C<|Aa C<|Aa C<|Aa C<|Aa C<|Aa C<|Aa C<|Aa C<|Aa C<|Aa Cd Bl) (show Fit κ _ (vc 3 (.slice ar (eo<|(e_ (ek nd es) v) &&& (left &&& ~~~(1#64 <<< (v).toNat))).length aq) (eo<|(e_ (ek nd es) v) &&& (left &&& ~~~(1#64 <<< (v).toNat)))::vc 3 (.slice az 1 1) (([v]:List Int))::vc 3 (.slice an ((ordL done)++([v]:List Int)).length ak) ((ordL done)++([v]:List Int))::vc 3 (.slice ai (replicate ((ek nd es).length) (default:Int)).length aj) (List.set (numL (ek nd es).length done) (v).toNat ((((max kk dd):Nat):Int)))::vc 3 (.slice ae (replicate ((ek nd es).length) (default:Int)).length ah) ((ap))::e8 b4 (cells ((List.set aa ((dd:Int)).toNat ((e_ aa dd) &&& ~~~(1#64 <<< (v).toNat))):List (BitVec 64))) 208::vc 207 (.slice ab (ek nd es).length ad) (ek nd es)::e8 b1 [e7 nd,va] 38::I) from Bf) ?_
   rintro ⟨j,Z,M⟩ hp
   dsimp only at hp ⊢
   obtain ⟨hj,au⟩:=hp
   have bv:=au.dlen
   have bt:=au.blen
   have bx:(eo<|e_ (ek nd es) v &&& (left &&& ~~~(1#64 <<< (v).toNat))).length<=64:=Em _
   have bp:j<(eo<|e_ (ek nd es) v &&& (left &&& ~~~(1#64 <<< (v).toNat))).length->(e_ (eo<|e_ (ek nd es) v &&& (left &&& ~~~(1#64 <<< (v).toNat))) (j:Int))∈eo (left &&& ~~~(1#64 <<< (v).toNat))/\(e_ (eo<|e_ (ek nd es) v &&& (left &&& ~~~(1#64 <<< (v).toNat))) (j:Int))∈eo (e_ (ek nd es) v):=λh=>by have h1:=Ca (xs:=(eo<|e_ (ek nd es) v &&& (left &&& ~~~(1#64 <<< (v).toNat)))) (i:=(j:Int)) om om;exact ⟨(mem_andB.1 h1).2,(mem_andB.1 h1).1⟩
   refine Af<|Gr (Bb C C)<|Ad<|Ap<|A8 C (λbj=>?_)<|λbj=>?_
   ·refine Aw (Ah<|Ap<|A0<|Af<|Gr (Az (α:=Int) (xs:=eo ((e_ (ek nd es) v) &&& (left &&& ~~~(1#64 <<< (v).toNat)))) Ab ef C C Bh om oo)<|Gr (Bw (xs:=eo ((e_ (ek nd es) v) &&& (left &&& ~~~(1#64 <<< (v).toNat)))) ef C Bh om oo)<|Ga C ?_)
    have a0:=bp om
    have b9:=au.rng (e_ (eo<|e_ (ek nd es) v &&& (left &&& ~~~(1#64 <<< (v).toNat))) (j:Int)) a0.1
    have ay:=au.deg (e_ (eo<|e_ (ek nd es) v &&& (left &&& ~~~(1#64 <<< (v).toNat))) (j:Int)) a0.1
    have a4:=ay
    have a9:=degM_now (rows:=ek nd es) (left:=left) (ws:=(eo<|e_ (ek nd es) v &&& (left &&& ~~~(1#64 <<< (v).toNat)))) (j:=j) om (Dh _)
    have bq:(e_ (eo<|e_ (ek nd es) v &&& (left &&& ~~~(1#64 <<< (v).toNat))) (j:Int))∈eo left:=((mem_minus om).1 a0.1).1
    have bw:=aw (e_ (eo<|e_ (ek nd es) v &&& (left &&& ~~~(1#64 <<< (v).toNat))) (j:Int)) bq
    have b3:1<=degB (ek nd es) left (e_ (eo<|e_ (ek nd es) v &&& (left &&& ~~~(1#64 <<< (v).toNat))) (j:Int)):=List.length_pos_of_mem (mem_andB.2 ⟨hS.sym v (e_ (eo<|e_ (ek nd es) v &&& (left &&& ~~~(1#64 <<< (v).toNat))) (j:Int)) om om a0.2,ax⟩)
    rw [a9] at a4
    refine Ad<|Am (S11 14 2 3 4 5 6 9 10 90 91 92 C C C C C C C C C C C)<|Ap<|Bq mixed<|Cc (vc 3 (.slice ar (eo<|(e_ (ek nd es) v) &&& (left &&& ~~~(1#64 <<< (v).toNat))).length aq) (eo<|(e_ (ek nd es) v) &&& (left &&& ~~~(1#64 <<< (v).toNat)))::vc 3 (.slice az 1 1) (([v]:List Int))::vc 3 (.slice an ((ordL done)++([v]:List Int)).length ak) ((ordL done)++([v]:List Int))::vc 3 (.slice ai (replicate ((ek nd es).length) (default:Int)).length aj) (List.set (numL (ek nd es).length done) (v).toNat ((((max kk dd):Nat):Int)))::vc 3 (.slice ae (replicate ((ek nd es).length) (default:Int)).length ah) (Z)::e8 b4 (cells (M:List (BitVec 64))) 208::vc 207 (.slice ab (ek nd es).length ad) (ek nd es)::e8 b1 [e7 nd,va] 38::I) 10<|Dr 0 C (Ai C)<|Dr 1 C (Ai C)<|Dr 2 C (Az (α:=Int) (xs:=Z) Ab ef C C Bh om oo)<|Dr 3 C (Bw (xs:=Z) ef C Bh om oo)<|Dr 4 C (B7 C5 ty207 C C om oo)<|Dr 5 C (Fc (xs:=M) ty207 C (Dy mm) om oo)<|Dr 6 C (Ai C)<|Ds1 7<|Se C (Aj c_ C C<|Bit_ok<|e_ (eo<|(e_ (ek nd es) v) &&& (left &&& ~~~(1#64 <<< (v).toNat))) (j:Int)) ?_
    rintro _ _ ⟨_,_,⟨rfl,rfl⟩,rfl,rfl⟩
    refine ⟨Av,?_⟩
    refine Dr 8 C (Et (a:=e_ M (e_ Z<|e_ (eo<|(e_ (ek nd es) v) &&& (left &&& ~~~(1#64 <<< (v).toNat))) (j:Int))) (b:=bitB (e_ (eo<|(e_ (ek nd es) v) &&& (left &&& ~~~(1#64 <<< (v).toNat))) (j:Int))) C C)<|Dr 9 C (B7 C5 ty207 C C om oo)<|Ct kr ?_
    refine Ae 10 C (Eff.setAU (xs:=M) (i:=e_ Z (e_ (eo<|(e_ (ek nd es) v) &&& (left &&& ~~~(1#64 <<< (v).toNat))) (j:Int))) (n:=(e_ M<|e_ Z<|e_ (eo<|(e_ (ek nd es) v) &&& (left &&& ~~~(1#64 <<< (v).toNat))) (j:Int)) &&& ~~~(bitB<|e_ (eo<|(e_ (ek nd es) v) &&& (left &&& ~~~(1#64 <<< (v).toNat))) (j:Int))) ty207 C C C om oo am) ?_
    rintro _ _ ⟨rfl,rfl⟩
    refine Cu kr ?_
    refine Ah<|Am (S11 14 2 3 4 5 6 9 10 90 91 92 C C C C C C C C C C C)<|Af<|Gm C<|Gm C<|Gr (Az (α:=Int) (xs:=Z) Ab ef C C Bh om oo)<|Gr (Bw (xs:=Z) ef C Bh om oo)<|Gr (Rsu C C)<|Gr (Az (α:=Int) (xs:=Z) Ab ef C C Bh om oo)<|Ge0 (Cx (α:=Int) (xs:=Z) (e:=3) (new:=(e_ Z<|e_ (eo<|(e_ (ek nd es) v) &&& (left &&& ~~~(1#64 <<< (v).toNat))) (j:Int)) - 1) ef C C C om oo am) ?_
    have a3:e_ (List.set Z (e_ (eo<|(e_ (ek nd es) v) &&& (left &&& ~~~(1#64 <<< (v).toNat))) (j:Int)).toNat ((e_ Z<|e_ (eo<|(e_ (ek nd es) v) &&& (left &&& ~~~(1#64 <<< (v).toNat))) (j:Int)) - 1)) (e_ (eo<|e_ (ek nd es) v &&& (left &&& ~~~(1#64 <<< (v).toNat))) (j:Int))=e_ Z (e_ (eo<|e_ (ek nd es) v &&& (left &&& ~~~(1#64 <<< (v).toNat))) (j:Int)) - 1:=by rw [Ef _ _ _ _ om om om,if_pos rfl]
    refine Ad<|Am (S11 14 2 3 4 5 6 9 10 90 91 92 C C C C C C C C C C C)<|Bq mixed<|Cc (vc 3 (.slice ar (eo<|(e_ (ek nd es) v) &&& (left &&& ~~~(1#64 <<< (v).toNat))).length aq) (eo<|(e_ (ek nd es) v) &&& (left &&& ~~~(1#64 <<< (v).toNat)))::vc 3 (.slice az 1 1) (([v]:List Int))::vc 3 (.slice an ((ordL done)++([v]:List Int)).length ak) ((ordL done)++([v]:List Int))::vc 3 (.slice ai (replicate ((ek nd es).length) (default:Int)).length aj) (List.set (numL (ek nd es).length done) (v).toNat ((((max kk dd):Nat):Int)))::vc 3 (.slice ae (replicate ((ek nd es).length) (default:Int)).length ah) (List.set Z (e_ (eo<|(e_ (ek nd es) v) &&& (left &&& ~~~(1#64 <<< (v).toNat))) (j:Int)).toNat ((e_ Z<|e_ (eo<|(e_ (ek nd es) v) &&& (left &&& ~~~(1#64 <<< (v).toNat))) (j:Int)) - 1))::e8 b4 (cells (List.set M (e_ Z<|e_ (eo<|(e_ (ek nd es) v) &&& (left &&& ~~~(1#64 <<< (v).toNat))) (j:Int)).toNat ((e_ M<|e_ Z<|e_ (eo<|(e_ (ek nd es) v) &&& (left &&& ~~~(1#64 <<< (v).toNat))) (j:Int)) &&& ~~~(bitB<|e_ (eo<|(e_ (ek nd es) v) &&& (left &&& ~~~(1#64 <<< (v).toNat))) (j:Int))):List (BitVec 64))) 208::vc 207 (.slice ab (ek nd es).length ad) (ek nd es)::e8 b1 [e7 nd,va] 38::I) 10<|Dr 0 C (Ai C)<|Dr 1 C (Ai C)<|Dr 2 C (Az (α:=Int) (xs:=List.set Z (e_ (eo<|(e_ (ek nd es) v) &&& (left &&& ~~~(1#64 <<< (v).toNat))) (j:Int)).toNat ((e_ Z<|e_ (eo<|(e_ (ek nd es) v) &&& (left &&& ~~~(1#64 <<< (v).toNat))) (j:Int)) - 1)) Ab ef C C Bh om oo)<|Dr 3 C (Bw (xs:=List.set Z (e_ (eo<|(e_ (ek nd es) v) &&& (left &&& ~~~(1#64 <<< (v).toNat))) (j:Int)).toNat ((e_ Z<|e_ (eo<|(e_ (ek nd es) v) &&& (left &&& ~~~(1#64 <<< (v).toNat))) (j:Int)) - 1)) ef C Bh om oo)<|Dr 4 C (B7 C5 ty207 C C om oo)<|Dr 5 C (Fc (xs:=List.set M (e_ Z<|e_ (eo<|(e_ (ek nd es) v) &&& (left &&& ~~~(1#64 <<< (v).toNat))) (j:Int)).toNat ((e_ M<|e_ Z<|e_ (eo<|(e_ (ek nd es) v) &&& (left &&& ~~~(1#64 <<< (v).toNat))) (j:Int)) &&& ~~~(bitB<|e_ (eo<|(e_ (ek nd es) v) &&& (left &&& ~~~(1#64 <<< (v).toNat))) (j:Int)))) ty207 C (Dy mm) om oo)<|Dr 6 C (Ai C)<|Ds1 7<|Se C (Aj c_ C C<|Bit_ok<|e_ (eo<|(e_ (ek nd es) v) &&& (left &&& ~~~(1#64 <<< (v).toNat))) (j:Int)) ?_
    rintro _ _ ⟨_,_,⟨rfl,rfl⟩,rfl,rfl⟩
    refine ⟨Av,?_⟩
    refine Dr 8 C (D8 (a:=e_ (List.set M (e_ Z<|e_ (eo<|(e_ (ek nd es) v) &&& (left &&& ~~~(1#64 <<< (v).toNat))) (j:Int)).toNat ((e_ M<|e_ Z<|e_ (eo<|(e_ (ek nd es) v) &&& (left &&& ~~~(1#64 <<< (v).toNat))) (j:Int)) &&& ~~~(bitB<|e_ (eo<|(e_ (ek nd es) v) &&& (left &&& ~~~(1#64 <<< (v).toNat))) (j:Int)))) (e_ (List.set Z (e_ (eo<|(e_ (ek nd es) v) &&& (left &&& ~~~(1#64 <<< (v).toNat))) (j:Int)).toNat ((e_ Z<|e_ (eo<|(e_ (ek nd es) v) &&& (left &&& ~~~(1#64 <<< (v).toNat))) (j:Int)) - 1))<|e_ (eo<|(e_ (ek nd es) v) &&& (left &&& ~~~(1#64 <<< (v).toNat))) (j:Int))) (b:=bitB (e_ (eo<|(e_ (ek nd es) v) &&& (left &&& ~~~(1#64 <<< (v).toNat))) (j:Int))) C C)<|Dr 9 C (B7 C5 ty207 C C om oo)<|Ct kr ?_
    refine Ae 10 C (Eff.setAU (xs:=List.set M (e_ Z<|e_ (eo<|(e_ (ek nd es) v) &&& (left &&& ~~~(1#64 <<< (v).toNat))) (j:Int)).toNat ((e_ M<|e_ Z<|e_ (eo<|(e_ (ek nd es) v) &&& (left &&& ~~~(1#64 <<< (v).toNat))) (j:Int)) &&& ~~~(bitB<|e_ (eo<|(e_ (ek nd es) v) &&& (left &&& ~~~(1#64 <<< (v).toNat))) (j:Int)))) (i:=e_ (List.set Z (e_ (eo<|(e_ (ek nd es) v) &&& (left &&& ~~~(1#64 <<< (v).toNat))) (j:Int)).toNat ((e_ Z<|e_ (eo<|(e_ (ek nd es) v) &&& (left &&& ~~~(1#64 <<< (v).toNat))) (j:Int)) - 1)) (e_ (eo<|(e_ (ek nd es) v) &&& (left &&& ~~~(1#64 <<< (v).toNat))) (j:Int))) (n:=(e_ (List.set M (e_ Z<|e_ (eo<|(e_ (ek nd es) v) &&& (left &&& ~~~(1#64 <<< (v).toNat))) (j:Int)).toNat ((e_ M<|e_ Z<|e_ (eo<|(e_ (ek nd es) v) &&& (left &&& ~~~(1#64 <<< (v).toNat))) (j:Int)) &&& ~~~(bitB<|e_ (eo<|(e_ (ek nd es) v) &&& (left &&& ~~~(1#64 <<< (v).toNat))) (j:Int))))<|e_ (List.set Z (e_ (eo<|(e_ (ek nd es) v) &&& (left &&& ~~~(1#64 <<< (v).toNat))) (j:Int)).toNat ((e_ Z<|e_ (eo<|(e_ (ek nd es) v) &&& (left &&& ~~~(1#64 <<< (v).toNat))) (j:Int)) - 1))<|e_ (eo<|(e_ (ek nd es) v) &&& (left &&& ~~~(1#64 <<< (v).toNat))) (j:Int)) ||| (bitB<|e_ (eo<|(e_ (ek nd es) v) &&& (left &&& ~~~(1#64 <<< (v).toNat))) (j:Int))) ty207 C C C om oo am) ?_
    rintro _ _ ⟨rfl,rfl⟩
    refine Cu kr ?_
    exact Al<|Ah<|Am (S10 2 3 4 5 6 9 10 90 91 92 C C C C C C C C C C)<|Au<|Gr (Rad C C)<|Gm C<|Bo<|Cf ((j+1),(List.set Z (e_ (eo<|(e_ (ek nd es) v) &&& (left &&& ~~~(1#64 <<< (v).toNat))) (j:Int)).toNat ((e_ Z<|e_ (eo<|(e_ (ek nd es) v) &&& (left &&& ~~~(1#64 <<< (v).toNat))) (j:Int)) - 1)),(List.set (List.set M (e_ Z<|e_ (eo<|(e_ (ek nd es) v) &&& (left &&& ~~~(1#64 <<< (v).toNat))) (j:Int)).toNat ((e_ M<|e_ Z<|e_ (eo<|(e_ (ek nd es) v) &&& (left &&& ~~~(1#64 <<< (v).toNat))) (j:Int)) &&& ~~~(bitB<|e_ (eo<|(e_ (ek nd es) v) &&& (left &&& ~~~(1#64 <<< (v).toNat))) (j:Int)))) (e_ (List.set Z (e_ (eo<|(e_ (ek nd es) v) &&& (left &&& ~~~(1#64 <<< (v).toNat))) (j:Int)).toNat ((e_ Z<|e_ (eo<|(e_ (ek nd es) v) &&& (left &&& ~~~(1#64 <<< (v).toNat))) (j:Int)) - 1))<|e_ (eo<|(e_ (ek nd es) v) &&& (left &&& ~~~(1#64 <<< (v).toNat))) (j:Int)).toNat ((e_ (List.set M (e_ Z<|e_ (eo<|(e_ (ek nd es) v) &&& (left &&& ~~~(1#64 <<< (v).toNat))) (j:Int)).toNat ((e_ M<|e_ Z<|e_ (eo<|(e_ (ek nd es) v) &&& (left &&& ~~~(1#64 <<< (v).toNat))) (j:Int)) &&& ~~~(bitB<|e_ (eo<|(e_ (ek nd es) v) &&& (left &&& ~~~(1#64 <<< (v).toNat))) (j:Int))))<|e_ (List.set Z (e_ (eo<|(e_ (ek nd es) v) &&& (left &&& ~~~(1#64 <<< (v).toNat))) (j:Int)).toNat ((e_ Z<|e_ (eo<|(e_ (ek nd es) v) &&& (left &&& ~~~(1#64 <<< (v).toNat))) (j:Int)) - 1))<|e_ (eo<|(e_ (ek nd es) v) &&& (left &&& ~~~(1#64 <<< (v).toNat))) (j:Int)) ||| (bitB<|e_ (eo<|(e_ (ek nd es) v) &&& (left &&& ~~~(1#64 <<< (v).toNat))) (j:Int)))))<|by dsimp only;exact ⟨om,(by have hN:=au.lower om (w:=(e_ (eo<|e_ (ek nd es) v &&& (left &&& ~~~(1#64 <<< (v).toNat))) (j:Int))) (e:=e_ Z (e_ (eo<|e_ (ek nd es) v &&& (left &&& ~~~(1#64 <<< (v).toNat))) (j:Int))) a0.1 ay.symm om om (dg':=degM (ek nd es) left (eo<|e_ (ek nd es) v &&& (left &&& ~~~(1#64 <<< (v).toNat))) (j+1)) (λu _=>degM_succ om (Dh _) u);rw [a3,bit_sh om om];exact hN)⟩
   exact Bx<|Ao<|Ao<|A9<|Ah<|Bx<|V.block_miss C<|Ao<|Ao<|V.block_miss C<|A9<|Cf ((done++[(v,max kk dd)]),((left &&& ~~~(1#64 <<< (v).toNat))),(max kk dd),(Z),(M),(an),(ak)) (by dsimp only;exact ⟨(core_step hc a8 om),(au.congr (λu=>Iff.rfl) (λu hu=>by have hr:=au.rng u hu;exact (degM_all hS om om ax hr.1 hr.2 hu om).symm)),(by have:=listB_minus ax;simp only [List.length_append,List.length_cons,List.length_nil];omega),om⟩) (hlt:=by (try dsimp only);exact (by have:=listB_minus ax;omega)) (hL:=(Aa (Dd C<|by first|rfl|(rw [ordL_snoc])|simp)<|Aa C<|Aa C<|Aa C<|Aa C<|Aa (Dd C<|by first|rfl|(rw [ordL_snoc])|simp)<|Aa C Bl)) (hI:=by (try dsimp only);exact (by rw [ordL_snoc,numL_snoc];exact Bm))
  exact (av.some (Classical.not_not.1<|λh=>h asm) aw<|λc h1 h2=>hz c h1 om).elim
 refine Bx<|Ao<|Ao<|A9<|Ah<|Af<|Gm C<|Gm C<|Ga C<|Ga C<|Ad<|Ay<|V.jump_ret ?_
 have bk:left=0#64:=Classical.not_not.1 ba
 have bn:done=coreR0 nd es:=by rw [←hc,bk,coreR_zero,List.append_nil]
 subst bn
 have be:=coreL_len nd es
 exact De C C C (vc 3 (.slice ao (coreO nd es).length co) (coreO nd es)::vc 3 (.slice ai (coreL nd es).length aj) (coreL nd es)::I) (by rw [be];simp only [List.length_replicate];exact Bm) ⟨ao,co,ai,aj,by rw [be];simp only [List.length_replicate];rfl,rfl⟩
theorem CNumbers_ok{κ:Ctx}{I:List Item}(hl:Sl κ I va es)(hT:TabRd κ I 0 tzCells):eu prog κ 83 [.agg #[e7 nd,va]] I (λr J=>∃a c,r = .tuple #[.slice a (coreN nd es).length c,e7 (checkG nd es)]/\J=vc 3 (.slice a (coreN nd es).length c) (coreN nd es)::I):=by
 refine Ce1 Tryz.func83 C C ?_
 refine Af<|Ge1 (Bc (cs:=[_,_]) C C C) λb1=>Ga C<|Ga C<|Ad<|Ap<|Af<|Gl2 ty38 ?_
 refine Gc0 (Aj c_ C C<|CheckGen_ok<|A6 hl) ?_
 refine Ga C<|Ad<|Af<|Gm C<|Gr (Bn C C)<|Ad<|A8 C (λc10=>?_)<|λc10=>?_
 ·refine Af (Gm C<|Ga C<|Ga C<|Ad<|Ay<|Aq ?_)
  have M:(coreN nd es)=[]:=if_pos c10
  exact De C C C (vc 3 (.slice none (coreN nd es).length 0) (coreN nd es)::I) (by rw [M];exact Cv (show Fit κ _ I from Av)<|Cm (α:=Int) _ _) ⟨none,0,by rw [M];rfl,rfl⟩
 refine Aw<|Ah<|Af<|Gl2 ty38 ?_
 refine G.e (Aj c_ C C<|CPeel_ok (nd:=nd) (A6 hl) (checkG_ok.1<|Classical.not_not.1 c10)<|Bg hT Av) ?_
 rintro _ _ ⟨_,_,⟨ab,ad,Z,aa,rfl,rfl⟩,rfl,rfl⟩
 refine Gm C<|Gr (Ak C C)<|Gr (Ak C C)<|Ga C<|Ga C<|Ad<|Am (S1 6 C)<|Af<|Gm C<|Ga C<|Ga C<|Ad<|Ay ?_
 have M:(coreN nd es)=_:=if_neg c10
 have hz:checkG nd es=0:=Classical.not_not.1 c10
 exact De C C C (vc 3 (.slice Z (coreN nd es).length aa) (coreN nd es)::I) (by rw [M];exact Bf) ⟨Z,aa,by rw [M,hz]<;>rfl,rfl⟩
theorem coreN_len(nd:Int)(es:List Pt):(coreN nd es).length<=64:=by
 unfold coreN
 split
 ·simp
 rw [coreL_len,rowsB_len];omega

end Go.Sl
namespace Go.Sl
end Go.Sl
namespace Go.Sl
open Go.Proofs
set_option maxRecDepth 4000
theorem edges_le{nd:Int}{es:List Pt}(Z:GrOk nd es):es.length<=2016:=by
 have hs:∀e∈es,e∈(List.range 64).flatMap fun (v:Nat)=>(List.range v).map fun (u:Nat)=>(⟨(u:Int),(v:Int)⟩:Pt):=λe M=>by
  have h:=Z.edge e M
  have hr:=Z.rng
  refine List.mem_flatMap.2 ⟨e.v.toNat,List.mem_range.2 om,List.mem_map.2 ⟨e.u.toNat,List.mem_range.2 om,?_⟩⟩
  rw [Dc]
  exact ⟨by show ((e.u.toNat:Nat):Int)=e.u;omega,by show ((e.v.toNat:Nat):Int)=e.v;omega⟩
 have hl:=List.Nodup.length_le_of_subset (E7 Z.asc) hs
 have e:((List.range 64).flatMap fun (v:Nat)=>(List.range v).map fun (u:Nat)=>(⟨(u:Int),(v:Int)⟩:Pt)).length=2016:=by
  rw [List.length_flatMap]
  simp only [List.length_map,List.length_range]
  decide+kernel
 omega

end Go.Sl
