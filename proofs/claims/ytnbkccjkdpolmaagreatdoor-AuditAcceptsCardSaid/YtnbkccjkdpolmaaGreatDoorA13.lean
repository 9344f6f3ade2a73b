/- A part of the proofs of statements of this seat: contracts of functions, and the plain laws that they lean on. No conditions. -/
import Derived.Test.YtnbkccjkdpolmaaGreatDoorA12
set_option linter.unusedVariables false
set_option linter.unusedSimpArgs false
set_option linter.unusedSectionVars false
open Go.Proofs.Tryz (prog)
open List (replicate)
namespace Go.Sl
open Go.Proofs
set_option maxRecDepth 4000
variable{m:BitVec 64}{bs:List Nat}
variable {κ:Ctx}{I:List Item}
attribute [local irreducible] W G V D A Runs Eff
theorem tz_small(m:BitVec 64):0<=tzTab.getD (tzIx m) 0/\tzTab.getD (tzIx m) 0<=64:=by
 have h:∀k:Fin 64,0<=tzTab.getD k.val 0/\tzTab.getD k.val 0<=64:=by decide+kernel
 exact h ⟨tzIx m,tzIx_lt m⟩
theorem Tz_ok(m:BitVec 64)(hT:TabRd κ I 0 tzCells):eu prog κ 127 [U64 m] I (λr J=>r=e7 (tzB m)/\I=J):=by
 refine Ce1 Tryz.func127 C C ?_
 refine Ar<|Ga C<|As<|A5<|Ar<|Gm C<|Gr (Runs.eqB (a:=m) (b:=0#64) C C)<|As<|Ap C (λM=>Z ?_)<|λM=>Z ?_
 ·exact Ai C C I Ah ⟨by unfold tzB;rw [if_pos M],rfl⟩
 refine Gr (Runs.negB (a:=m) C)<|Gr (Cz (a:=m) (b:= -m) C C)<|Gr (Runs.mulB (a:=m &&& (-m)) (b:=285870213051353865#64) C C)<|Gr (Fs (a:=(m &&& (-m))*285870213051353865#64) C C om om)<|Gr (Runs.idxArrU (i:=tzIx m) Tryz.underlying230 ty5 C C<|tzIx_lt m)<|Gr (Runs.loadTab ty5 C (A8 hT Ah)<|tzCells_at m)<|Gr (Runs.convI Fp Bd C<|by unfold InR;have:=tz_small m;omega)<|Z ?_
 exact Ai C C I Ah ⟨by unfold tzB;rw [if_neg M],rfl⟩
theorem Least_ok(m:BitVec 64)(M:TabRd κ I 0 tzCells):eu prog κ 212 [U64 m] I (λr J=>r=e7 (tzB m)/\I=J):=by
 refine Ce1 Tryz.func212 C C<|Z ?_
 refine G.e (Ac c_ C C<|Tz_ok m<|A8 M Ah) ?_
 rintro _ _ ⟨_,_,⟨rfl,rfl⟩,rfl,rfl⟩
 exact Ga C<|As<|Bf<|Ai C C I Ah ⟨rfl,rfl⟩
theorem MList_ok(m:BitVec 64)(hT:TabRd κ I 0 tzCells):eu prog κ 140 [U64 m] I (λr J=>∃a c,r = .slice a (eo m).length c/\J=vc 3 (.slice a (eo m).length c) (eo m)::I):=by
 refine Ce1 Tryz.func140 C C<|Z ?_
 refine D7 (σ:=(BitVec 64)×(Option Addr)×Nat×(List Int)) (λs=>[(0,U64<|s.1),(3,.slice s.2.1 s.2.2.2.length s.2.2.1)]) (λs=>[vc 3 (.slice s.2.1 s.2.2.2.length s.2.2.1) (s.2.2.2)]) (λs=>(eo m=s.2.2.2++eo s.1)) (λs=>(eo s.1).length) (m,none,0,[]) C (hI:=(Bw _ _)) ?_
 rintro ⟨n,a,c,out⟩ hp
 dsimp only at hp ⊢
 have ho:=hp
 have ad:=congrArg List.length ho
 rw [List.length_append] at ad
 have ah:=Ee m
 refine A5<|Ar<|Gm C<|Gr (Eo (a:=n) (b:=0#64) C C)<|As<|Ap C (λM=>Z ?_)<|λM=>Z ?_
 ·refine G.e (Ac c_ C C<|Tz_ok n<|A8 hT Ah) ?_
  rintro _ _ ⟨_,_,⟨rfl,rfl⟩,rfl,rfl⟩
  refine Ge1 (B9 (α:=Int) (cs:=[_]) (xs:=[tzB n]) Aa ef C C dc dc C C C C) λai=>?_
  refine Ge2 (B4 (α:=Int) (e:=3) (xs:=out) (ys:=([tzB n]:List Int)) Aa ef C C C mm A7 lcn dc C<|λ_ _=>am) λab ae=>Z ?_
  exact Gr (Runs.subB (a:=n) (b:=1#64) C C)<|Gr (Cz (a:=n) (b:=n - (1#64)) C C)<|Ga C<|Bi<|B5 ((n &&& (n - (1#64))),(ab),(ae),(out++([tzB n]:List Int))) (by dsimp only;exact (by rw [ho,listB_step M,List.append_assoc];rfl)) (hlt:=by (try dsimp only);exact (listB_less M))
 have aa:n=0#64:=Classical.not_not.1 M
 have hE:out=eo m:=by rw [ho,aa,Dh,List.append_nil]
 subst hE
 exact Ai C C (vc 3 (.slice a (eo m).length c) (eo m)::I) Aj ⟨a,c,rfl,rfl⟩
theorem ones1_val(hl:bs.length=8)(hb:∀b∈bs,b<256)(hm:m.toNat=valN bs):(ones1 m).toNat=valN (bs.map p1):=by
 unfold ones1
 have M:valN (bs.map p1)<=repN 255 8:=by
  have:=valN_le (c:=255) (bs.map p1) λb h=>by obtain ⟨x,hx,rfl⟩:=List.mem_map.1 h;have:=(b1 ⟨x,hb x hx⟩).1;simp only at this;omega
  rwa [List.length_map,hl] at this
 rw [BitVec.toNat_add,BitVec.toNat_and,BitVec.toNat_and,BitVec.toNat_ushiftRight,Nat.shiftRight_eq_div_pow,show 2 ^ (1:Int).toNat=2 from rfl,hm,show (6148914691236517205#64).toNat=repN 85 bs.length by rw [hl];decide+kernel,step1 bs hb]
 exact Nat.mod_eq_of_lt<|Nat.lt_of_le_of_lt M<|by decide+kernel
theorem ones2_val(hl:bs.length=8)(hb:∀b∈bs,b<256/\p2 b<256)(hm:m.toNat=valN bs):(ones2 m).toNat=valN (bs.map p2):=by
 unfold ones2
 have M:valN (bs.map p2)<=repN 255 8:=by
  have:=valN_le (c:=255) (bs.map p2) λb h=>by obtain ⟨x,hx,rfl⟩:=List.mem_map.1 h;have:=(hb x hx).2;omega
  rwa [List.length_map,hl] at this
 rw [BitVec.toNat_add,BitVec.toNat_and,BitVec.toNat_and,BitVec.toNat_ushiftRight,Nat.shiftRight_eq_div_pow,show 2 ^ (2:Int).toNat=4 from rfl,hm,show (3689348814741910323#64).toNat=repN 51 bs.length by rw [hl];decide+kernel,step2 bs λb h=>(hb b h).1]
 exact Nat.mod_eq_of_lt<|Nat.lt_of_le_of_lt M<|by decide+kernel
theorem ones3_val(M:bs.length=8)(hb:∀b∈bs,b % 16<=4/\b / 16<=4)(hm:m.toNat=valN bs):(ones3 m).toNat=valN (bs.map p3):=by
 unfold ones3
 have aa:valN bs<=repN 68 8:=by
  have:=valN_le (c:=68) bs λb h=>by have:=hb b h;omega
  rwa [M] at this
 have hr:repN 68 8=4919131752989213764:=by decide+kernel
 rw [BitVec.toNat_and,BitVec.toNat_add,BitVec.toNat_ushiftRight,Nat.shiftRight_eq_div_pow,show 2 ^ (4:Int).toNat=16 from rfl,hm,show (1085102592571150095#64).toNat=repN 15 bs.length by rw [M];decide+kernel,Nat.mod_eq_of_lt om,step3 bs hb]
theorem ones_pop(m:BitVec 64):onesB m=((eo m).length:Int):=by
 unfold onesB
 have hl:=bytesN_len m.toNat 8
 have hlt:=bytesN_lt m.toNat 8
 have hv:=bytesN_val 8 m.toNat (Nat.lt_of_lt_of_le m.isLt dc)
 generalize bytesN m.toNat 8=bs at hl hlt hv
 have hb:=λb (h:b∈bs)=>b1 ⟨b,hlt b h⟩
 have e1:=ones1_val hl hlt hv.symm
 have e2:=ones2_val (bs:=bs.map p1) (by rw [List.length_map,hl]) (λb h=>by obtain ⟨x,hx,rfl⟩:=List.mem_map.1 h;have:=hb x hx;simp only at this;exact ⟨this.1,by omega⟩) e1
 have e3:=ones3_val (bs:=(bs.map p1).map p2) (by rw [List.length_map,List.length_map,hl]) (λb h=>by obtain ⟨y,hy,rfl⟩:=List.mem_map.1 h;obtain ⟨x,hx,rfl⟩:=List.mem_map.1 hy;have:=hb x hx;simp only at this;exact ⟨this.2.1,this.2.2.1⟩) e2
 generalize ones3 (ones2<|ones1 m)=a at e3
 have hc:valN bs=m.toNat:=hv
 have M:=cnt_val bs hlt
 obtain ⟨f1,f2⟩:=fold_all (n:=a.toNat) (n4:=a.toNat+a.toNat / 256) (n5:=a.toNat+a.toNat / 256+(a.toNat+a.toNat / 256) / 65536) (n6:=a.toNat+a.toNat / 256+(a.toNat+a.toNat / 256) / 65536+(a.toNat+a.toNat / 256+(a.toNat+a.toNat / 256) / 65536) / 4294967296)
  (bs:=((bs.map p1).map p2).map p3) (by rw [List.length_map,List.length_map,List.length_map,hl]) (λb h=>by obtain ⟨z,hz,rfl⟩:=List.mem_map.1 h;obtain ⟨y,hy,rfl⟩:=List.mem_map.1 hz;obtain ⟨x,hx,rfl⟩:=List.mem_map.1 hy;have:=hb x hx;simp only at this;exact this.2.2.2.1) e3 rfl rfl rfl
 have g4:(ones4 a).toNat=a.toNat+a.toNat / 256:=by
  unfold ones4;rw [BitVec.toNat_add,BitVec.toNat_ushiftRight,Nat.shiftRight_eq_div_pow,show 2 ^ (8:Int).toNat=256 from rfl];exact Nat.mod_eq_of_lt om
 have g5:(ones5<|ones4 a).toNat=a.toNat+a.toNat / 256+(a.toNat+a.toNat / 256) / 65536:=by
  unfold ones5;rw [BitVec.toNat_add,BitVec.toNat_ushiftRight,Nat.shiftRight_eq_div_pow,show 2 ^ (16:Int).toNat=65536 from rfl,g4];exact Nat.mod_eq_of_lt om
 have g6:(ones6<|ones5<|ones4 a).toNat=a.toNat+a.toNat / 256+(a.toNat+a.toNat / 256) / 65536+(a.toNat+a.toNat / 256+(a.toNat+a.toNat / 256) / 65536) / 4294967296:=by
  unfold ones6;rw [BitVec.toNat_add,BitVec.toNat_ushiftRight,Nat.shiftRight_eq_div_pow,show 2 ^ (32:Int).toNat=4294967296 from rfl,g5];exact Nat.mod_eq_of_lt om
 have hL:(eo m).length=sumN' (((bs.map p1).map p2).map p3):=by
  unfold eo listN
  rw [List.length_map,List.map_map,List.map_map,show (λi=>m.getLsbD i)=λj=>(valN bs).testBit j from by funext j;rw [hc];rfl]
  rw [hl] at M
  exact M
 rw [g6,hL,←f1]
 omega
end Go.Sl
namespace Go.Sl
open Go.Proofs
set_option maxRecDepth 4000
def meetL(xs ys:List Int):List Int:=(ofL xs).filter λx=>decide (x∈ys)
theorem mem_meetL{xs ys:List Int}{x:Int}:x∈meetL xs ys↔x∈xs/\x∈ys:=by simp [meetL,mem_ofL]
def rangeI(n:Int):List Int:=(List.range (min n 64).toNat).map λj:Nat=>(j:Int)
theorem mem_rangeI{n x:Int}:x∈rangeI n↔0<=x/\x<n/\x<64:=by
 unfold rangeI
 rw [List.mem_map]
 constructor
 ·rintro ⟨j,hj,rfl⟩;rw [List.mem_range] at hj;omega
 rintro ⟨h1,M,h3⟩;exact ⟨x.toNat,by rw [List.mem_range];omega,by omega⟩
theorem insideN_ok{nd:Int}{es:List Pt}{set:List Int}(h:GrOk nd es):insideN nd es set=(es.filter λe=>decide (e.u∈set/\e.v∈set)).length:=by
 unfold insideN;rw [if_neg (by rw [checkG_ok.2 h];decide),insideL_eq set h]
end Go.Sl
namespace Go.Sl
variable{rows:List (BitVec 64)}{M f w:BitVec 64}
def reachL(rows:List (BitVec 64))(w:BitVec 64):Nat->BitVec 64->BitVec 64->BitVec 64
 |0,_,frm=>frm
 |n+1,front,frm=>if front=0#64 then frm else reachL rows w n ((front &&& (front - 1#64)) ||| (e_ rows (tzB front) &&& w &&& ~~~frm)) (frm ||| (e_ rows (tzB front) &&& w &&& ~~~frm))
def reachB(rows:List (BitVec 64))(f w:BitVec 64):BitVec 64:=reachL rows w 64 (f &&& w) (f &&& w)
structure ReachI (rows:List (BitVec 64)) (f w front frm:BitVec 64):Prop where
 start:∀i:Nat,(f &&& w).getLsbD i=true->frm.getLsbD i=true
 sub:∀i:Nat,frm.getLsbD i=true->w.getLsbD i=true
 fsub:∀i:Nat,front.getLsbD i=true->frm.getLsbD i=true
 closed:∀i j:Nat,frm.getLsbD i=true->front.getLsbD i=false->(e_ rows i).getLsbD j=true->w.getLsbD j=true->frm.getLsbD j=true
 least:∀X:Nat->Prop,(∀i:Nat,(f &&& w).getLsbD i=true->X i)->(∀i j:Nat,X i->w.getLsbD i=true->(e_ rows i).getLsbD j=true->w.getLsbD j=true->X j)->∀i:Nat,frm.getLsbD i=true->X i
structure ReachP (rows:List (BitVec 64)) (f w M:BitVec 64):Prop where
 start:∀i:Nat,(f &&& w).getLsbD i=true->M.getLsbD i=true
 sub:∀i:Nat,M.getLsbD i=true->w.getLsbD i=true
 closed:∀i j:Nat,M.getLsbD i=true->(e_ rows i).getLsbD j=true->w.getLsbD j=true->M.getLsbD j=true
 least:∀X:Nat->Prop,(∀i:Nat,(f &&& w).getLsbD i=true->X i)->(∀i j:Nat,X i->w.getLsbD i=true->(e_ rows i).getLsbD j=true->w.getLsbD j=true->X j)->∀i:Nat,M.getLsbD i=true->X i
theorem ReachP.uniq{N:BitVec 64}(h:ReachP rows f w M)(k:ReachP rows f w N):M=N:=by
 refine BitVec.eq_of_getLsbD_eq λi _=>?_
 have e1:=h.least (λi=>N.getLsbD i=true) k.start (λi j a _ b c=>k.closed i j a b c) i
 have e2:=k.least (λi=>M.getLsbD i=true) h.start (λi j a _ b c=>h.closed i j a b c) i
 cases h1:M.getLsbD i<;>cases h2:N.getLsbD i<;>simp_all
theorem ReachI.begin:ReachI rows f w (f &&& w) (f &&& w):=
 ⟨λi h=>h,λi h=>by rw [BitVec.getLsbD_and,Bool.and_eq_true] at h;exact h.2,λi h=>h,λi j h M=>absurd h<|by rw [M];decide,λX h _ i hi=>h i hi⟩
theorem ReachI.done(h:ReachI rows f w 0#64 M):ReachP rows f w M:=
 ⟨h.start,h.sub,λi j a b c=>h.closed i j a (by simp) b c,h.least⟩
def reachM(w front frm:BitVec 64):Nat:=(listN (w &&& ~~~(frm &&& ~~~front))).length
theorem listN_lt{a b:BitVec 64}(h:∀i:Nat,a.getLsbD i=true->b.getLsbD i=true){k:Nat}(ha:a.getLsbD k=false)(hb:b.getLsbD k=true):(listN a).length<(listN b).length:=by
 have hn:(k::listN a).Nodup:=List.nodup_cons.2 ⟨λM=>by {rw [mem_listN,ha] at M;exact absurd M (by decide)},(listN_asc a).imp λh=>by omega⟩
 exact List.Nodup.length_le_of_subset hn λi hi=>by
  rcases List.mem_cons.1 hi with rfl|h1
  ·exact mem_listN.2 hb
  exact mem_listN.2<|h i<|mem_listN.1 h1
theorem ReachI.step{frm:BitVec 64}(h:ReachI rows f w M frm)(hf:M≠0#64) :
  ReachI rows f w ((M &&& (M - 1#64)) ||| (e_ rows (tzB M) &&& w &&& ~~~frm)) (frm ||| (e_ rows (tzB M) &&& w &&& ~~~frm))/\reachM w ((M &&& (M - 1#64)) ||| (e_ rows (tzB M) &&& w &&& ~~~frm)) (frm ||| (e_ rows (tzB M) &&& w &&& ~~~frm))<reachM w M frm:=by
 obtain ⟨k,hk,ah,hlt,he,hp⟩:=least_bit hf
 have ai:tzB M=(k:Int):=tzB_eq hf hk he
 rw [ai]
 have aa:∀i:Nat,(frm ||| (e_ rows k &&& w &&& ~~~frm)).getLsbD i=true↔(frm.getLsbD i=true\/((e_ rows k).getLsbD i=true/\w.getLsbD i=true)):=λi=>by
  by_cases hi:i<64
  ·simp only [BitVec.getLsbD_or,BitVec.getLsbD_and,BitVec.getLsbD_not,hi,decide_true,Bool.true_and]
   cases frm.getLsbD i<;>simp
  simp [BitVec.getLsbD_of_ge _ _ (show 64<=i by omega)]
 have ad:∀i:Nat,((M &&& (M - 1#64)) ||| (e_ rows k &&& w &&& ~~~frm)).getLsbD i=true↔((M.getLsbD i=true/\i≠k)\/((e_ rows k).getLsbD i=true/\w.getLsbD i=true/\frm.getLsbD i=false)):=λi=>by
  by_cases hi:i<64
  ·simp only [BitVec.getLsbD_or,BitVec.getLsbD_and,BitVec.getLsbD_not,hi,decide_true,Bool.true_and]
   have:=hp i
   rw [BitVec.getLsbD_and] at this
   rw [this]
   cases frm.getLsbD i<;>simp
  simp [BitVec.getLsbD_of_ge _ _ (show 64<=i by omega)]
 have ab:=h.fsub k ah
 have ae:=h.sub k ab
 refine ⟨⟨λi hi=>(aa i).2 (.inl<|h.start i hi),λi hi=>?_,λi hi=>?_,λi j hi hj hr hw=>?_,λX h1 h2 i hi=>?_⟩,?_⟩
 ·rcases (aa i).1 hi with h1|h1
  ·exact h.sub i h1
  exact h1.2
 ·rcases (ad i).1 hi with h1|h1
  ·exact (aa i).2 (.inl<|h.fsub i h1.1)
  exact (aa i).2 (.inr ⟨h1.1,h1.2.1⟩)
 ·have hn:¬((M.getLsbD i=true/\i≠k)\/((e_ rows k).getLsbD i=true/\w.getLsbD i=true/\frm.getLsbD i=false)):=λhh=>by rw [(ad i).2 hh] at hj;cases hj
  by_cases hik:i=k
  ·subst hik;exact (aa j).2 (.inr ⟨hr,hw⟩)
  rcases (aa i).1 hi with h1|h1
  ·have h3:M.getLsbD i=false:=by
    cases h4:M.getLsbD i
    ·rfl
    exact absurd (.inl ⟨h4,hik⟩) hn
   exact (aa j).2 (.inl<|h.closed i j h1 h3 hr hw)
  have h3:frm.getLsbD i=true:=by
   cases h4:frm.getLsbD i
   ·exact absurd (.inr ⟨h1.1,h1.2,h4⟩) hn
   rfl
  have aj:M.getLsbD i=false:=by
   cases h4:M.getLsbD i
   ·rfl
   exact absurd (.inl ⟨h4,hik⟩) hn
  exact (aa j).2 (.inl<|h.closed i j h3 aj hr hw)
 ·rcases (aa i).1 hi with h3|h3
  ·exact h.least X h1 h2 i h3
  exact h2 k i (h.least X h1 h2 k ab) ae h3.1 h3.2
 unfold reachM
 have hx:∀(a b:BitVec 64) (i:Nat),(w &&& ~~~(b &&& ~~~a)).getLsbD i=true↔(w.getLsbD i=true/\¬(b.getLsbD i=true/\a.getLsbD i=false)):=λa b i=>by
  by_cases hi:i<64
  ·simp only [BitVec.getLsbD_and,BitVec.getLsbD_not,hi,decide_true,Bool.true_and]
   cases a.getLsbD i<;>cases b.getLsbD i<;>simp
  simp [BitVec.getLsbD_of_ge _ _ (show 64<=i by omega)]
 refine listN_lt (k:=k) (λi hi=>?_) ?_<|(hx _ _ _).2 ⟨ae,λhh=>by rw [ah] at hh;exact absurd hh.2<|by decide⟩
 ·obtain ⟨h1,h2⟩:=(hx _ _ _).1 hi
  refine (hx _ _ _).2 ⟨h1,λhh=>h2 ⟨(aa i).2 (.inl hh.1),?_⟩⟩
  cases h4:((M &&& (M - 1#64)) ||| (e_ rows k &&& w &&& ~~~frm)).getLsbD i
  ·rfl
  rcases (ad i).1 h4 with h5|h5
  ·rw [hh.2] at h5;exact absurd h5.1 (by decide)
  rw [hh.1] at h5;exact absurd h5.2.2 (by decide)
 rw [←Bool.not_eq_true]
 intro hh
 refine ((hx _ _ _).1 hh).2 ⟨(aa k).2 (.inl ab),?_⟩
 cases h4:((M &&& (M - 1#64)) ||| (e_ rows k &&& w &&& ~~~frm)).getLsbD k
 ·rfl
 rcases (ad k).1 h4 with h5|h5
 ·exact absurd rfl h5.2
 rw [ab] at h5;exact absurd h5.2.2 (by decide)
theorem ReachI.ends:∀(n:Nat) (front frm:BitVec 64),ReachI rows f w front frm->reachM w front frm<=n->ReachP rows f w (reachL rows w n front frm)
 |0,front,frm,h,hm=>by
  have hz:front=0#64:=Classical.byContradiction λM=>by have:=(h.step M).2;omega
  subst hz;exact h.done
 |n+1,front,frm,h,hm=>by
  unfold reachL
  by_cases M:front=0#64
  ·rw [if_pos M];subst M;exact h.done
  rw [if_neg M];exact ReachI.ends n _ _ (h.step M).1 (by have:=(h.step M).2;omega)
theorem reachB_ok(rows:List (BitVec 64))(f w:BitVec 64):ReachP rows f w (reachB rows f w):=ReachI.ends 64 _ _ .begin (listN_len _)
theorem ReachI.eq(h:ReachI rows f w 0#64 M):M=reachB rows f w:=h.done.uniq (reachB_ok rows f w)
end Go.Sl
namespace Go.Sl
end Go.Sl
namespace Go.Sl
open Go.Proofs
set_option maxRecDepth 4000
theorem mkF_zero{b:Int}(h:0<b):mkF 0 b=⟨0,1⟩:=by
 have e:gcdI 0 b=b:=by unfold gcdI;simp;omega
 unfold mkF;rw [e,Int.zero_ediv,Int.ediv_self om]
end Go.Sl
namespace Go.Sl
open Go.Proofs
set_option maxRecDepth 4000
variable{es:List Pt}{nd u v:Int}{set:List Int}{va vb:Value}
variable {κ:Ctx}{I:List Item}
attribute [local irreducible] W G V D A Runs Eff
def rowG(nd:Int)(es:List Pt)(v:Int):BitVec 64:=if v<0\/((ek nd es).length:Int)<=v\/checkG nd es≠0 then 0#64 else e_ (ek nd es) v
def nbL(es:List Pt)(v:Int):List Int:=es.flatMap λe=>(if e.u=v then [e.v] else [])++(if e.v=v then [e.u] else [])
theorem nbL_take{k:Nat}(h:k<es.length)(v:Int):nbL (es.take (k+1)) v=nbL (es.take k) v++((if (e_ es k).u=v then [(e_ es k).v] else [])++(if (e_ es k).v=v then [(e_ es k).u] else [])):=by
 unfold nbL;rw [Ct es k h,List.flatMap_append];simp
theorem mem_nbL{x:Int}:x∈nbL es v↔(⟨v,x⟩:Pt)∈es\/(⟨x,v⟩:Pt)∈es:=by
 unfold nbL
 rw [List.mem_flatMap]
 constructor
 ·rintro ⟨⟨a,b⟩,M,hx⟩
  rcases List.mem_append.1 hx with h|h
  ·split at h
   ·rename_i h1;simp only [List.mem_singleton] at h;simp only at h1;subst h h1;exact .inl M
   simp at h
  split at h
  ·rename_i h1;simp only [List.mem_singleton] at h;simp only at h1;subst h h1;exact .inr M
  simp at h
 rintro (h|h)
 ·exact ⟨_,h,by simp⟩
 exact ⟨_,h,by simp⟩
def nbG(nd:Int)(es:List Pt)(v:Int):List Int:=if checkG nd es≠0 then [] else ofL (nbL es v)
theorem nb_eq(nd:Int)(es:List Pt)(v:Int):eo (rowG nd es v)=nbG nd es v:=by
 by_cases hc:checkG nd es≠0
 ·unfold rowG nbG;rw [if_pos (.inr<|.inr hc),if_pos hc,Dh]
 have M:=checkG_ok.1 (Classical.not_not.1 hc)
 have hr:=M.rng
 have hl:=M.rows.len
 unfold nbG
 rw [if_neg hc]
 refine intLin.uniq (listB_asc _) (ofL_asc _) λx=>?_
 rw [Ed,mem_ofL,mem_nbL]
 by_cases hv:v<0\/((ek nd es).length:Int)<=v
 ·have hz:rowG nd es v=0#64:=if_pos om
  rw [hz]
  simp only [BitVec.getLsbD_zero,Bool.false_eq_true,and_false,false_iff]
  rintro (h|h)
  ·have:=M.edge _ h;simp only at this;omega
  have:=M.edge _ h;simp only at this;omega
 have hz:rowG nd es v=e_ (ek nd es) v:=if_neg om
 rw [hz]
 by_cases hx:0<=x/\x<64
 ·rw [M.rows.bit v x om om hx.1 hx.2,decide_eq_true_eq]
  exact ⟨λh=>h.2,λh=>⟨hx.1,h⟩⟩
 constructor
 ·rintro ⟨h1,h2⟩
  rw [BitVec.getLsbD_of_ge _ _ om] at h2
  exact absurd h2 dc
 rintro (h|h)
 ·have:=M.edge _ h;simp only at this;omega
 have:=M.edge _ h;simp only at this;omega
theorem nbG_len(nd:Int)(es:List Pt)(v:Int):(nbG nd es v).length<=64:=by rw [←nb_eq];exact Ee _
theorem listB_and(a b:BitVec 64):eo (a &&& b)=meetL (eo a) (eo b):=by
 refine intLin.uniq (listB_asc _) ((ofL_asc _).sublist List.filter_sublist) λx=>?_
 rw [mem_meetL,Ed,Ed,Ed,BitVec.getLsbD_and,Bool.and_eq_true]
 exact ⟨λh=>⟨⟨h.1,h.2.1⟩,h.1,h.2.2⟩,λh=>⟨h.1.1,h.1.2,h.2.2⟩⟩
def commonG(nd:Int)(es:List Pt)(u v:Int):List Int:=if u=v then [] else meetL (nbG nd es u) (nbG nd es v)
theorem common_eq(h:u≠v):eo (rowG nd es u &&& rowG nd es v)=commonG nd es u v:=by
 unfold commonG;rw [if_neg h,listB_and,nb_eq,nb_eq]
def FindP(nd:Int)(es:List Pt)(u v y:Int):Prop:=(checkG nd es=0/\∃j:Nat,y=(j:Int)/\j<es.length/\e_ es j=edgeP u v)\/(y = -1/\(checkG nd es≠0\/edgeP u v∉es))
theorem FindP.uniq{y z:Int}(h:FindP nd es u v y)(M:FindP nd es u v z):y=z:=by
 have aa:∀{a b:Int},(checkG nd es=0/\∃j:Nat,a=(j:Int)/\j<es.length/\e_ es j=edgeP u v)->(b = -1/\(checkG nd es≠0\/edgeP u v∉es))->False:=by
  rintro a b ⟨hc,j,_,hj,he⟩ ⟨_,h1|h1⟩
  ·exact h1 hc
  exact h1<|he▸Bx om om
 rcases h with h|h<;>rcases M with M|M
 ·obtain ⟨hc,j,rfl,hj,he⟩:=h
  obtain ⟨_,i,rfl,hi,hf⟩:=M
  have ha:=(checkG_ok.1 hc).asc
  rcases Nat.lt_trichotomy i j with h1|h1|h1
  ·have:=asc_at ha (i:=i) (j:=j) h1 hj;rw [he,hf] at this;exact absurd this (Pt.lin.irr _)
  ·rw [h1]
  have:=asc_at ha (i:=j) (j:=i) h1 hi;rw [he,hf] at this;exact absurd this (Pt.lin.irr _)
 ·exact (aa h M).elim
 ·exact (aa M h).elim
 rw [h.1,M.1]
def indG(nd:Int)(es:List Pt)(set:List Int):List Pt:=if checkG nd es≠0 then [] else insideL set es
theorem indG_len(nd:Int)(es:List Pt)(set:List Int):(indG nd es set).length=insideN nd es set:=by
 unfold indG insideN;split<;>rfl
theorem indG_ref(set:List Int)(h:¬checkG nd es≠0):indG nd es set=es.filter λe=>decide (e.u∈set/\e.v∈set):=by
 unfold indG;rw [if_neg h];exact insideL_eq set (checkG_ok.1<|Classical.not_not.1 h)
theorem all_tab:∀n:Fin 65,∀i:Fin 64,(allB (n.val:Int)).getLsbD i.val=decide (i.val<n.val):=by decide+kernel
theorem getLsb_allB{n:Int}(h0:0<=n)(M:n<=64){i:Nat}(hi:i<64):(allB n).getLsbD i=decide ((i:Int)<n):=by
 have:=all_tab ⟨n.toNat,by omega⟩ ⟨i,hi⟩
 simp only [show ((n.toNat:Nat):Int)=n by omega] at this
 rw [this,decide_eq_decide];omega
theorem meet_all(set:List Int)(h0:0<=nd)(h1:nd<=64):eo (maskB set &&& allB nd)=meetL set (rangeI nd):=by
 refine intLin.uniq (listB_asc _) ((ofL_asc _).sublist List.filter_sublist) λx=>?_
 rw [mem_meetL,Ed,mem_rangeI,BitVec.getLsbD_and,Bool.and_eq_true]
 by_cases hx:0<=x/\x<64
 ·rw [getLsb_allB h0 h1 om,decide_eq_true_eq,show (maskB set).getLsbD x.toNat=decide (x∈set) by unfold maskB;rw [getLsb_maskB om,show ((x.toNat:Nat):Int)=x by omega];simp,decide_eq_true_eq]
  exact ⟨λh=>⟨h.2.1,h.1,by omega,by omega⟩,λh=>⟨h.2.1,h.1,by omega⟩⟩
 constructor
 ·rintro ⟨h1,M,_⟩
  rw [BitVec.getLsbD_of_ge _ _ om] at M
  exact absurd M dc
 rintro ⟨_,h⟩;omega
theorem dens_count(set:List Int)(h:¬checkG nd es≠0):onesB (maskB set &&& allB nd)=((meetL set (rangeI nd)).length:Int):=by
 have M:=(checkG_ok.1<|Classical.not_not.1 h).rng
 rw [ones_pop,meet_all set M.1 M.2]
theorem dens_none(h:¬checkG nd es≠0)(hm:(meetL set (rangeI nd)).length=0):insideN nd es set=0:=by
 have M:=checkG_ok.1 (Classical.not_not.1 h)
 have hr:=M.rng
 rw [insideN_ok M,List.length_eq_zero_iff,List.filter_eq_nil_iff]
 intro e he hd
 simp only [decide_eq_true_eq] at hd
 have h1:=M.edge e he
 have:e.u∈meetL set (rangeI nd):=mem_meetL.2 ⟨hd.1,mem_rangeI.2 ⟨by omega,by omega,by omega⟩⟩
 rw [List.length_eq_zero_iff.1 hm] at this
 exact absurd this List.not_mem_nil
def densG(nd:Int)(es:List Pt)(set:List Int):Fr:=if checkG nd es≠0 then ⟨0,0⟩ else if (meetL set (rangeI nd)).length=0 then ⟨0,1⟩ else mkF ((insideN nd es set:Nat):Int) (((meetL set (rangeI nd)).length:Nat):Int)
theorem densG_prog(set:List Int)(h:¬checkG nd es≠0):mkF ((insideN nd es set:Nat):Int) (if onesB (maskB set &&& allB nd)<1 then 1 else onesB (maskB set &&& allB nd))=densG nd es set:=by
 unfold densG
 rw [if_neg h,dens_count set h]
 by_cases hm:(meetL set<|rangeI nd).length=0
 ·rw [if_pos hm,dens_none h hm,if_pos om];exact mkF_zero dc
 rw [if_neg hm,if_neg om]
theorem GRowG_ok(hl:Sl κ I va es)(v:Int):eu prog κ 286 [.agg #[e7 nd,va],e7 v] I (λr J=>r=U64 (rowG nd es v)/\I=J):=by
 refine Ce2 Tryz.func286 C C ?_
 refine Ar<|Ge1 (Al (cs:=[_,_]) C C C) λb1=>Z ?_
 refine G.e (Ac c_ C C<|MRows_ok (nd:=nd)<|Au hl) ?_
 rintro _ _ ⟨_,_,⟨ah,ae,rfl,rfl⟩,rfl,rfl⟩
 have M:=Fm nd es
 refine Z ?_
 refine A6 (d:=10) C (λab=>Z ?_)<|λab=>Z ?_
 ·exact Ai C C I Ah ⟨by rw [show rowG nd es v=0#64 from if_pos om];rfl,rfl⟩
 refine A6 (d:=16) C (λaa=>Z ?_)<|λaa=>Z ?_
 ·exact Ai C C I Ah ⟨by rw [show rowG nd es v=0#64 from if_pos om];rfl,rfl⟩
 refine Dn (B7 C C C) (Ac c_ C C<|CheckGen_ok<|Au hl) ?_
 rintro _ _ ⟨_,_,⟨rfl,rfl⟩,rfl,rfl⟩
 refine Z ?_
 refine Ap C (λad=>Z ?_)<|λad=>Z ?_
 ·exact Ai C C I Ah ⟨by rw [show rowG nd es v=0#64 from if_pos om];rfl,rfl⟩
 exact Ai C C I Ah ⟨by rw [show rowG nd es v=e_ (ek nd es) v from if_neg om],rfl⟩
theorem CommonG_ok(hl:Sl κ I va es)(u v:Int)(hT:TabRd κ I 0 tzCells):eu prog κ 260 [.agg #[e7 nd,va],e7 u,e7 v] I (λr J=>∃a c,r = .slice a (commonG nd es u v).length c/\J=vc 3 (.slice a (commonG nd es u v).length c) (commonG nd es u v)::I):=by
 refine Ce3 Tryz.func260 C C ?_
 refine Ar<|Ge1 (Al (cs:=[_,_]) C C C) λb1=>Z ?_
 refine Ap C (λc9=>Z ?_)<|λc9=>Z ?_
 ·have M:(commonG nd es u v)=[]:=if_pos c9
  exact Ai C C (vc 3 (.slice none (commonG nd es u v).length 0) (commonG nd es u v)::I) (by rw [M];exact Ak (show Fit κ _ I from Ah)<|Bw _ _) ⟨none,0,by rw [M];rfl,rfl⟩
 refine A4 mixed<|Cr 9<|Z ?_
 refine Ds1 2<|Se C (Ac c_ C C<|GRowG_ok (nd:=nd) (Au hl) u) ?_
 rintro _ _ ⟨_,_,⟨rfl,rfl⟩,rfl,rfl⟩
 refine ⟨Aj,?_⟩
 refine Ds1 5<|Se C (Ac c_ C C<|GRowG_ok (nd:=nd) (Au hl) v) ?_
 rintro _ _ ⟨_,_,⟨rfl,rfl⟩,rfl,rfl⟩
 refine ⟨Aj,?_⟩
 refine Dr 6 C (Cz (a:=rowG nd es u) (b:=rowG nd es v) C C)<|Ds1 7<|Sc2 C (Ac c_ C C<|MList_ok ((rowG nd es u) &&& (rowG nd es v))<|A8 hT Ah) λab aa=>Z ?_
 have M:(commonG nd es u v)=_:=(common_eq c9).symm
 exact Ai C C (vc 3 (.slice ab (commonG nd es u v).length aa) (commonG nd es u v)::I) (by rw [M];exact Aj) ⟨ab,aa,by rw [M],rfl⟩
theorem FindG_ok(hl:Sl κ I va es)(u v:Int)(hb:es.length<=1000000000):eu prog κ 117 [.agg #[e7 nd,va],e7 u,e7 v] I (λr J=>∃y:Int,r=e7 y/\FindP nd es u v y/\I=J):=by
 refine Ce3 Tryz.func117 C C ?_
 refine Ar<|Ge1 (Al (cs:=[_,_]) C C C) λb1=>Z ?_
 refine G.e (Ac c_ C C<|Place_ok (Au hl) u v om) ?_
 rintro _ _ ⟨_,_,⟨i2,q3,rfl,ab,rfl⟩,rfl,rfl⟩
 refine Z ?_
 refine A6 (d:=17) C (λM=>Z ?_)<|λM=>Z ?_
 ·refine Dn (B7 C C C) (Ac c_ C C<|CheckGen_ok<|Au hl) ?_
  rintro _ _ ⟨_,_,⟨rfl,rfl⟩,rfl,rfl⟩
  refine Z ?_
  refine Ap C (λaa=>Z ?_)<|λaa=>Z ?_
  ·exact Ai C C I Ah ⟨_,rfl,.inl ⟨aa,i2,rfl,M.1,M.2⟩,rfl⟩
  have hn:checkG nd es≠0\/edgeP u v∉es:=(Decidable.em<|checkG nd es=0).elim (λhc=> .inr λhm=>by first|exact aa hc|exact M ((ab.mem (checkG_ok.1 hc).asc).2 hm)) .inl
  exact Ai C C I Ah ⟨_,rfl,.inr ⟨rfl,hn⟩,rfl⟩
 have hn:checkG nd es≠0\/edgeP u v∉es:=(Decidable.em<|checkG nd es=0).elim (λhc=> .inr λhm=>by first|exact aa hc|exact M ((ab.mem (checkG_ok.1 hc).asc).2 hm)) .inl
 exact Ai C C I Ah ⟨_,rfl,.inr ⟨rfl,hn⟩,rfl⟩
theorem DensityG_ok(hl:Sl κ I va es)(hs:Sl κ I vb set)(hb:es.length<=1000000):eu prog κ 65 [.agg #[e7 nd,va],vb] I (λr J=>r = .tuple #[.agg #[e7 (densG nd es set).num,e7 (densG nd es set).den],e7 (checkG nd es)]/\I=J):=by
 refine Ce2 Tryz.func65 C C ?_
 refine Ar<|Ge1 (Al (cs:=[_,_]) C C C) λb1=>Ge1 (Am ty34 C) λb2=>Z ?_
 refine Gc0 (Ac c_ C C<|CheckGen_ok<|Au hl)<|Z ?_
 refine Ap C (λc11=>Z ?_)<|λc11=>Z ?_
 ·refine Ge0 (Cf ty34) (Z ?_)
  have M:(densG nd es set)=⟨0,0⟩:=if_pos c11
  exact D5 C ty34 C C mm C I Ah ⟨by first|(rw [M];done)|(rw [M];rfl),rfl⟩
 refine A4 mixed<|Cr 8<|Z ?_
 refine Ds1 1<|Sc0 C (Ac c_ C C<|MaskOf_ok<|Au hs) ?_
 refine Ds1 4<|Sc0 C (Ac c_ C C<|MaskAll_ok nd) ?_
 refine Dr 5 C (Cz (a:=maskB set) (b:=allB nd) C C)<|Ds1 6<|Sc0 C (Ac c_ C C<|MCount_ok<|(maskB set) &&& (allB nd))<|Z ?_
 refine Gc0 (Ac c_ C C<|InsideG_ok (nd:=nd) (Au hl) (Au hs) om) ?_
 have aa:=insideN_le nd es set
 refine Z ?_
 refine Gc0 (Ac c_ C C<|MakeF_ok ((insideN nd es set:Nat):Int) (if (onesB<|(maskB set) &&& (allB nd))<1 then 1 else (onesB<|(maskB set) &&& (allB nd))) om<|by have:=onesB_bd (maskB set &&& allB nd);split<;>omega)<|Z ?_
 refine Ge0 (Cf ty34)<|Z ?_
 have M:=densG_prog (nd:=nd) (es:=es) set c11
 have hz:checkG nd es=0:=Classical.not_not.1 c11
 exact D5 C ty34 C C mm C I Ah ⟨by first|(rw [←M,hz];done)|(rw [←M,hz];rfl),rfl⟩
variable {κ:Ctx}{I:List Item}
theorem all_rows(h:0<=nd/\nd<=64)(i:Nat)(hi:(allB nd).getLsbD i=true):i<(ek nd es).length:=by
 have M:i<64:=Classical.byContradiction λhn=>by rw [BitVec.getLsbD_of_ge _ _ om] at hi;cases hi
 rw [getLsb_allB h.1 h.2 M,decide_eq_true_eq] at hi
 rw [Fm];omega
theorem and_all_rows(m:BitVec 64)(h:0<=nd/\nd<=64)(i:Nat)(hi:(m &&& allB nd).getLsbD i=true):i<(ek nd es).length:=by
 rw [BitVec.getLsbD_and,Bool.and_eq_true] at hi;exact all_rows h i hi.2
theorem MReach_ok{rows:List (BitVec 64)}(hl:Sl κ I va rows)(f w:BitVec 64)(hw:∀i:Nat,w.getLsbD i=true->i<rows.length)(hT:TabRd κ I 0 tzCells):eu prog κ 187 [va,U64 f,U64 w] I (λr J=>r=U64 (reachB rows f w)/\I=J):=by
 refine Ce3 Tryz.func187 C C<|Z ?_
 refine Gr (Cz (a:=f) (b:=w) C C)<|Z ?_
 refine D7 (σ:=(BitVec 64)×(BitVec 64)) (λs=>[(1,U64<|s.2),(7,U64<|s.1)]) (λ_=>[]) (λs=>(ReachI rows f w s.1 s.2)) (λs=>reachM w s.1 s.2) (f &&& w,f &&& w) .begin ?_
 rintro ⟨M,frm⟩ hp
 dsimp only at hp ⊢
 have hR:=hp
 refine A5<|Ar<|Gm C<|Gr (Eo (a:=M) (b:=0#64) C C)<|As<|Ap C (λaa=>Z ?_)<|λaa=>Z ?_
 ·refine Gc0 (Ac c_ C C<|Least_ok M<|A8 hT Ah) (Z ?_)
  have ab:=tzB_range aa
  have ad:=hw _ (hR.sub _<|hR.fsub _ ab.2.2)
  refine Z ?_
  refine Gr (Runs.subB (a:=M) (b:=1#64) C C)<|Gr (Cz (a:=M) (b:=M - (1#64)) C C)<|Z ?_
  refine Gr (Cz (a:=(e_ rows<|tzB M)) (b:=w) C C)<|Gm C<|Gr (D1 (a:=(e_ rows<|tzB M) &&& w) (b:=frm) C C)<|Z ?_
  refine Gr (Ey (a:=frm) (b:=((e_ rows<|tzB M) &&& w) &&& ~~~frm) C C)<|Z ?_
  exact Gr (Ey (a:=M &&& (M - (1#64))) (b:=((e_ rows<|tzB M) &&& w) &&& ~~~frm) C C)<|Ga C<|Bi<|Av<|B5 (((M &&& (M - (1#64))) ||| (((e_ rows<|tzB M) &&& w) &&& ~~~frm)),(frm ||| (((e_ rows<|tzB M) &&& w) &&& ~~~frm))) (by dsimp only;exact (hR.step aa).1) (hlt:=by (try dsimp only);exact (hR.step aa).2)
 have hz:M=0#64:=Classical.not_not.1 aa
 subst hz
 exact Ai C C I Ah ⟨by rw [hR.eq],rfl⟩
def rchG(nd:Int)(es:List Pt)(frm set:List Int):List Int:=if checkG nd es≠0 then [] else eo (reachB (ek nd es) (maskB frm) (maskB set &&& allB nd))
theorem CReach_ok{vd:Value}{frm:List Int}(hl:Sl κ I va es)(hf:Sl κ I vb frm)(hs:Sl κ I vd set)(hT:TabRd κ I 0 tzCells):eu prog κ 116 [.agg #[e7 nd,va],vb,vd] I (λr J=>∃a c,r = .tuple #[.slice a (rchG nd es frm set).length c,e7 (checkG nd es)]/\J=vc 3 (.slice a (rchG nd es frm set).length c) (rchG nd es frm set)::I):=by
 refine Ce3 Tryz.func116 C C ?_
 refine Ar<|Ge1 (Al (cs:=[_,_]) C C C) λb1=>Z ?_
 refine Gc0 (Ac c_ C C<|CheckGen_ok<|Au hl)<|Z ?_
 refine Ap C (λc12=>Z ?_)<|λc12=>Z ?_
 ·have M:(rchG nd es frm set)=[]:=if_pos c12
  exact Cy C C C (vc 3 (.slice none (rchG nd es frm set).length 0) (rchG nd es frm set)::I) (by rw [M];exact Ak (show Fit κ _ I from Ah)<|Bw _ _) ⟨none,0,by rw [M];rfl,rfl⟩
 refine A4 mixed<|Cr 14<|Z ?_
 refine Ds1 1<|Se C (Ac c_ C C<|MRows_ok (nd:=nd)<|Au hl) ?_
 rintro _ _ ⟨_,_,⟨ah,ae,rfl,rfl⟩,rfl,rfl⟩
 refine ⟨Aj,?_⟩
 have ad:=Fm nd es
 refine Ds1 3<|Sc0 C (Ac c_ C C<|MaskOf_ok<|Au hf) ?_
 refine Ds1 5<|Sc0 C (Ac c_ C C<|MaskOf_ok<|Au hs) ?_
 refine Ds1 8<|Sc0 C (Ac c_ C C<|MaskAll_ok nd) ?_
 refine Dr 9 C (Cz (a:=maskB set) (b:=allB nd) C C)<|Ds1 10<|Se C (Ac c_ C C<|MReach_ok A7 (maskB frm) ((maskB set) &&& (allB nd)) (and_all_rows _ (checkG_ok.1<|Classical.not_not.1 c12).rng)<|A8 hT Ah) ?_
 rintro _ _ ⟨_,_,⟨rfl,rfl⟩,rfl,rfl⟩
 refine ⟨Aj,?_⟩
 refine Ds1 11<|Sc2 C (Ac c_ C C<|MList_ok (reachB (ek nd es) (maskB frm)<|(maskB set) &&& (allB nd))<|A8 hT Ah) λaa ab=>Z ?_
 have M:(rchG nd es frm set)=_:=if_neg c12
 have hz:checkG nd es=0:=Classical.not_not.1 c12
 exact Cy C C C (vc 3 (.slice aa (rchG nd es frm set).length ab) (rchG nd es frm set)::I) (by rw [M];exact Aj) ⟨aa,ab,by rw [M,hz],rfl⟩
end Go.Sl
namespace Go.Sl
open Go.Proofs
set_option maxRecDepth 4000
variable{n:Nat}{nd v:Int}{rows:List (BitVec 64)}{es:List Pt}
def coreR0(nd:Int)(es:List Pt):List (Int×Nat):=coreR (ek nd es) (allB ((ek nd es).length:Int)) 0
def coreL(nd:Int)(es:List Pt):List Int:=numL (ek nd es).length (coreR0 nd es)
def coreO(nd:Int)(es:List Pt):List Int:=ordL (coreR0 nd es)
def coreN(nd:Int)(es:List Pt):List Int:=if checkG nd es≠0 then [] else coreL nd es
def coreK(nd:Int)(es:List Pt)(k:Int):List Int:=sideL (coreN nd es).length λv=>decide (k<=e_ (coreN nd es) v)
theorem mem_allN(h:n<=64){u:Int}:u∈eo (allB (n:Int))↔0<=u/\u<n:=by
 constructor
 ·intro M
  have hr:=Fo M
  rw [Ed,getLsb_allB om om om,decide_eq_true_eq] at M
  omega
 intro M
 rw [Ed,getLsb_allB om om om,decide_eq_true_eq]
 omega
theorem coreL_len(nd:Int)(es:List Pt):(coreL nd es).length=(ek nd es).length:=numL_len _ _
theorem ordL_len(l:List (Int×Nat)):(ordL l).length=l.length:=List.length_map ..
theorem bit_sh(h0:0<=v)(M:v<64):bitB v=1#64 <<< v.toNat:=by unfold bitB;rw [if_neg om]
theorem deg_full(h:SymB n rows){k:Int}(h0:0<=k)(h1:k<n):onesB (e_ rows k)=((degB rows (allB (n:Int)) k:Nat):Int):=by
 rw [ones_pop]
 unfold degB
 congr 1
 refine ((List.perm_ext_iff_of_nodup (Dq _)<|Dq _).2 λu=>?_).length_eq
 rw [mem_andB]
 refine ⟨λM=>⟨M,(mem_allN h.le).2 ⟨(Fo M).1,h.lt k u h0 h1 M⟩⟩,λM=>M.1⟩
theorem degB_all(h:SymB n rows)(hn:1<=n)(left:BitVec 64)(v:Int):degB rows left v<=n - 1:=by
 by_cases hv:v.toNat<n
 ·have e:e_ rows v=e_ rows v.toNat:=by show rows.getD v.toNat _=rows.getD ((v.toNat:Nat):Int).toNat _;rw [Int.toNat_natCast]
  have:=degB_lt h left (v:=(v.toNat:Int)) om om
  unfold degB at this ⊢
  rw [e];omega
 have e:e_ rows v=0#64:=by
  unfold e_
  rw [List.getD_eq_getElem?_getD,List.getElem?_eq_none (by rw [h.len];omega)];rfl
 unfold degB
 rw [e,BitVec.zero_and,Dh];simp
theorem rows_sym(M:GrOk nd es):SymB (ek nd es).length (ek nd es):=by
 have h:=M.rows.symB M
 have e:=h.len
 rw [←e] at h;exact h
theorem core_step{left:BitVec 64}{M dd:Nat}{done:List (Int×Nat)}{all:List (Int×Nat)}(hc:done++coreR rows left M=all)(hT:Takes rows left v)(hd:degB rows left v=dd) :
  (done++[(v,max M dd)])++coreR rows (left &&& ~~~(1#64 <<< v.toNat)) (max M dd)=all:=by
 rw [←hc,coreR_step hT,hd,List.append_assoc];rfl
theorem cnt_allN(h:n<=64):(eo (allB (n:Int))).length=n:=by
 have M:(eo (allB (n:Int))).Perm ((List.range n).map fun (i:Nat)=>(i:Int)):=(List.perm_ext_iff_of_nodup (Dq _) (by
  exact List.Pairwise.map _ (λa b h=>by omega) (List.nodup_range (n:=n)))).2 λu=>by
  rw [mem_allN h,List.mem_map]
  constructor
  ·intro hu;exact ⟨u.toNat,List.mem_range.2 om,by omega⟩
  rintro ⟨i,hi,rfl⟩;have:=List.mem_range.1 hi;omega
 have:=M.length_eq
 rwa [List.length_map,List.length_range] at this
set_option maxHeartbeats 2000000 in
theorem CPeel_ok{κ:Ctx}{I:List Item}{va:Value}(hl:Sl κ I va es)(hG:GrOk nd es)(hT:TabRd κ I 0 tzCells):eu prog κ 136 [.agg #[e7 nd,va]] I (λr J=>∃a c a' c',r = .tuple #[.slice a (coreO nd es).length c,.slice a' (coreL nd es).length c']/\J=vc 3 (.slice a (coreO nd es).length c) (coreO nd es)::vc 3 (.slice a' (coreL nd es).length c') (coreL nd es)::I):=by
 have hS:=rows_sym hG
 have bt:=hS.le
 refine Ce1 Tryz.func136 C C ?_
 refine Ar<|Ge1 (Al (cs:=[_,_]) C C C) λb1=>Ga C<|Ga C<|As<|W.scope0 (l:=0) C ?_
 refine Ar<|Gl2 ty56 ?_
 refine G.e (Ac c_ C C<|MRows_ok (nd:=nd)<|Au hl) ?_
 rintro _ _ ⟨_,_,⟨ad,ae,rfl,rfl⟩,rfl,rfl⟩
 have bf:=Fm nd es
 refine Ga C<|As<|Ar<|Ge1 (Am ty245 C) λb4=>?_
 refine As<|Ar<|Gm C<|Gr (Ca Cl C)<|Ge2 (Cj (α:=Int) (n:=(ek nd es).length) Aa ef C C C om om dc C) λaj ah=>?_
 refine Ga C<|As<|A5<|Ar<|Gm C<|Gr (Ca Cl C)<|Gm C<|As<|Bg (S7 22 21 20 6 5 4 2 C C C C C C C)<|Bk<|Cn (σ:=Nat×(List Int)×(List<|BitVec 64)) (λs=>([(2,.slice none 0 0),(4,.slice ad (ek nd es).length ae),(5,.pointer<|some ⟨b4,0,none⟩),(6,.slice aj (replicate ((ek nd es).length) (default:Int)).length ah),(20,.slice ad (ek nd es).length ae),(21,e7<|(((ek nd es).length:Nat):Int)),(22,e7 ((s.1:Nat):Int))]:Env)) (λs=>vc 3 (.slice aj (replicate ((ek nd es).length) (default:Int)).length ah) (s.2.1)::e8 b4 (cells (s.2.2:List (BitVec 64))) 245::vc 152 (.slice ad (ek nd es).length ae) (ek nd es)::e8 b1 [e7 nd,va] 56::I) (λs=>(s.1<=(ek nd es).length)/\(BkOk (ek nd es).length (λu=>0<=u/\u<((s.1:Nat):Int)) (degB (ek nd es)<|allB ((ek nd es).length:Int)) s.2.1 s.2.2)) (λs=>(ek nd es).length - s.1) (0,replicate ((ek nd es).length) (default:Int),replicate 64<|0#64) ⟨om,(BkOk.start _ _)⟩ (Ab C<|Ab C<|Ab C<|Ab C<|Ab C<|Ab C<|Ab Dg Bs) Aj ?_
 rintro ⟨k,dgs,bks⟩ hp
 dsimp only at hp ⊢
 obtain ⟨hk,hB⟩:=hp
 have cb:=hB.dlen
 have b7:=hB.blen
 have a4:k<(ek nd es).length->onesB (e_ (ek nd es) k)=((degB (ek nd es) (allB ((ek nd es).length:Int)) (k:Int):Nat):Int):=λh=>deg_full hS om om
 have a0:k<(ek nd es).length->((degB (ek nd es) (allB ((ek nd es).length:Int)) (k:Int):Nat):Int)<64:=λh=>by have:=degB_lt hS (allB ((ek nd es).length:Int)) (v:=(k:Int)) om om;omega
 refine Ar<|Gr (Ch C C)<|As<|A5<|Ap C (λbq=>?_)<|λbq=>?_
 ·refine Bt (Ay<|A5<|Bk<|Ar<|Gm C<|Gr (Az (α:=(BitVec 64)) (xs:=ek nd es) Cl ty152 C C A7 om oo)<|Gr (Dj (α:=(BitVec 64)) (xs:=ek nd es) (u:=U64 ((e_ (ek nd es) k))) ty152 C A7 om oo C)<|Ga C<|Ga C<|As<|Ar<|Gm C<|Gm C<|Gm C<|Gc0 (Ac c_ C C<|MCount_ok<|e_ (ek nd es) k) ?_)
  refine Gr (Az (α:=Int) (xs:=dgs) Aa ef C C A7 om oo)<|Ge0 (Ci (α:=Int) (xs:=dgs) (e:=3) (new:=onesB (e_ (ek nd es) k)) ef C C C om oo am) ?_
  have a6:=a4 om
  have bo:=a0 om
  have bc:e_ (List.set dgs ((k:Int)).toNat (onesB<|e_ (ek nd es) k)) (k:Int)=((degB (ek nd es) (allB ((ek nd es).length:Int)) (k:Int):Nat):Int):=by rw [C2 _ _ _ _ om om om,if_pos rfl,a6]
  refine As<|Bg (S8 7 2 4 5 6 20 21 22 C C C C C C C C)<|A4 mixed<|Cr 10<|Dr 0 C (Af C)<|Dr 1 C (Af C)<|Dr 2 C (Az (α:=Int) (xs:=List.set dgs ((k:Int)).toNat (onesB<|e_ (ek nd es) k)) Aa ef C C A7 om oo)<|Dr 3 C (Bj (xs:=List.set dgs ((k:Int)).toNat (onesB<|e_ (ek nd es) k)) ef C A7 om oo)<|Dr 4 C (Cb C5 ty152 C C om oo)<|Dr 5 C (Fz (xs:=bks) ty152 C (Cw mm) om oo)<|Dr 6 C (Af C)<|Ds1 7<|Se C (Ac c_ C C<|Bit_ok (k:Int)) ?_
  rintro _ _ ⟨_,_,⟨rfl,rfl⟩,rfl,rfl⟩
  refine ⟨Ah,?_⟩
  refine Dr 8 C (Ey (a:=e_ bks (e_ (List.set dgs ((k:Int)).toNat (onesB<|e_ (ek nd es) k)) (k:Int))) (b:=bitB (k:Int)) C C)<|Dr 9 C (Cb C5 ty152 C C om oo)<|C3 kr ?_
  refine Ae 10 C (Eff.setAU (xs:=bks) (i:=e_ (List.set dgs ((k:Int)).toNat (onesB<|e_ (ek nd es) k)) (k:Int)) (n:=(e_ bks<|e_ (List.set dgs ((k:Int)).toNat (onesB<|e_ (ek nd es) k)) (k:Int)) ||| (bitB (k:Int))) ty152 C C C om oo am) ?_
  rintro _ _ ⟨rfl,rfl⟩
  refine C4 kr ?_
  exact Av<|Ay<|Bg (S7 2 4 5 6 20 21 22 C C C C C C C)<|Be<|Gr (Rad C C)<|Gm C<|Bi<|B5 ((k+1),(List.set dgs ((k:Int)).toNat (onesB<|e_ (ek nd es) k)),(List.set bks (e_ (List.set dgs ((k:Int)).toNat (onesB<|e_ (ek nd es) k)) (k:Int)).toNat ((e_ bks<|e_ (List.set dgs ((k:Int)).toNat (onesB<|e_ (ek nd es) k)) (k:Int)) ||| (bitB (k:Int)))))<|by dsimp only;exact ⟨om,(by have hN:=hB.push (S':=λu=>0<=u/\u<((k+1:Nat):Int)) (v:=(k:Int)) (c:=((degB (ek nd es) (allB ((ek nd es).length:Int)) (k:Int):Nat):Int)) om om om (λu=>by constructor<;>intro h<;>omega) (λh=>by omega) C (a0 om);rw [bc,a4 om,bit_sh om om];exact hN)⟩
 refine C7<|A9<|A9<|B3<|Ay<|Ar<|Gm C<|Gr (Ca Cl C)<|Ge2 (Cj (α:=Int) (n:=(ek nd es).length) Aa ef C C C om om dc C) λai ak=>?_
 refine Ga C<|As<|Ar<|Gm C<|Gr (Ca Cl C)<|Gc0 (Ac c_ C C<|MaskAll_ok (((ek nd es).length:Nat):Int)) ?_
 refine Ga C<|As<|Bg (S6 9 3 2 4 5 6 C C C C C C)<|Ar<|Ga C<|As<|A5<|W.label ?_
 refine Ay<|A5<|Bk<|Cn (σ:=(List<|Int×Nat)×(BitVec 64)×Nat×(List Int)×(List<|BitVec 64)×(Option Addr)×Nat) (λs=>([(2,.slice s.2.2.2.2.2.1 (ordL s.1).length s.2.2.2.2.2.2),(3,.slice ai (replicate ((ek nd es).length) (default:Int)).length ak),(4,.slice ad (ek nd es).length ae),(5,.pointer<|some ⟨b4,0,none⟩),(6,.slice aj (replicate ((ek nd es).length) (default:Int)).length ah),(9,U64<|s.2.1),(10,e7 ((s.2.2.1:Nat):Int))]:Env)) (λs=>vc 3 (.slice s.2.2.2.2.2.1 (ordL s.1).length s.2.2.2.2.2.2) (ordL s.1)::vc 3 (.slice ai (replicate ((ek nd es).length) (default:Int)).length ak) (numL (ek nd es).length s.1)::vc 3 (.slice aj (replicate ((ek nd es).length) (default:Int)).length ah) (s.2.2.2.1)::e8 b4 (cells (s.2.2.2.2.1:List (BitVec 64))) 245::vc 152 (.slice ad (ek nd es).length ae) (ek nd es)::e8 b1 [e7 nd,va] 56::I) (λs=>(s.1++coreR (ek nd es) s.2.1 s.2.2.1=coreR0 nd es)/\(BkOk (ek nd es).length (λu=>u∈eo s.2.1) (degB (ek nd es) s.2.1) s.2.2.2.1 s.2.2.2.2.1)/\(s.1.length+(eo s.2.1).length=(ek nd es).length)/\(s.2.2.1<=63)) (λs=>(eo s.2.1).length) ([],(allB ((ek nd es).length:Int)),0,dgs,bks,none,0) (show (([]:List (Int×Nat))++coreR (ek nd es) ((allB ((ek nd es).length:Int)):BitVec 64) (0:Nat)=coreR0 nd es)/\(BkOk (ek nd es).length (λu=>u∈eo ((allB ((ek nd es).length:Int)):BitVec 64)) (degB (ek nd es) ((allB ((ek nd es).length:Int)):BitVec 64)) (dgs:List Int) (bks:List (BitVec 64)))/\(([]:List (Int×Nat)).length+(eo ((allB ((ek nd es).length:Int)):BitVec 64)).length=(ek nd es).length)/\((0:Nat)<=63) from ⟨rfl,(hB.congr (λu=>(mem_allN hS.le).trans (by constructor<;>intro h<;>omega))<|λu _=>rfl),(by have:(eo<|allB ((ek nd es).length:Int)).length=(ek nd es).length:=cnt_allN hS.le;simp only [List.length_nil];omega),om⟩) (Ab (El C<|by first|rfl|(rw [ordL_snoc])|simp)<|Ab C<|Ab C<|Ab C<|Ab C<|Ab (El C<|by first|rfl|(rw [ordL_snoc])|simp)<|Ab Dg Bs) (Ak (Bw (α:=Int) _ _) Bb) ?_
 rintro ⟨done,left,kk,ay,ab,ao,co⟩ hp
 dsimp only at hp ⊢
 obtain ⟨hc,ap,ca,b9⟩:=hp
 have bv:=ap.dlen
 have bu:=ap.blen
 have hold:=ordL_len done
 have cc:=numL_len (ek nd es).length done
 have aq:∀u∈eo left,degB (ek nd es) left u<64:=λu hu=>by have hr:=ap.rng u hu;have:=degB_lt hS left hr.1 hr.2;omega
 refine A5<|Ar<|Gm C<|Gr (Eo (a:=left) (b:=0#64) C C)<|As<|Ap C (λa8=>?_)<|λa8=>?_
 ·refine Bt (Ay<|Bk<|Ar<|Gm C<|As<|Bk<|Cn (σ:=Nat) (λs=>([(2,.slice ao (ordL done).length co),(3,.slice ai (replicate ((ek nd es).length) (default:Int)).length ak),(4,.slice ad (ek nd es).length ae),(5,.pointer<|some ⟨b4,0,none⟩),(6,.slice aj (replicate ((ek nd es).length) (default:Int)).length ah),(9,U64 left),(10,e7<|(kk:Int)),(51,e7 ((s:Nat):Int))]:Env)) (λs=>vc 3 (.slice ao (ordL done).length co) (ordL done)::vc 3 (.slice ai (replicate ((ek nd es).length) (default:Int)).length ak) (numL (ek nd es).length done)::vc 3 (.slice aj (replicate ((ek nd es).length) (default:Int)).length ah) (ay)::e8 b4 (cells (ab:List (BitVec 64))) 245::vc 152 (.slice ad (ek nd es).length ae) (ek nd es)::e8 b1 [e7 nd,va] 56::I) (λs=>(s<=64)/\(∀c:Int,0<=c->c<((s:Nat):Int)->e_ ab c=0#64)) (λs=>64 - s) 0 ⟨om,(λc h1 h2=>by omega)⟩ (Ab C<|Ab C<|Ab C<|Ab C<|Ab C<|Ab C<|Ab C<|Ab Dg Bs) Aj ?_)
  rintro dd hp
  obtain ⟨b3,hz⟩:=hp
  refine Ar<|Gr (Ch C C)<|As<|A5<|Ap C (λbm=>?_)<|λbm=>?_
  ·refine Bt (Ay<|A5<|Bk<|Ar<|Gm C<|Ga C<|As<|A5<|Ar<|Gm C<|Gr (Cb C5 ty152 C C om oo)<|Gr (Fz (xs:=ab) ty152 C (Cw mm) om oo)<|Gr (Runs.eqB (a:=e_ ab dd) (b:=0#64) C C)<|As<|Bg (S10 57 11 2 3 4 5 6 9 10 51 C C C C C C C C C C)<|Ap C (λbb=>?_)<|λbb=>?_)
   ·exact C7<|A9<|B3<|Ay<|Be<|Gr (Rad C C)<|Gm C<|Bi<|B5 ((dd+1)) ⟨om,(λc h1 h2=>by by_cases e:c=(dd:Int);(· rw [e];assumption);(· exact hz c h1 om))⟩
   refine Bt<|Ay<|Ar<|Gm C<|Gr (Cb C5 ty152 C C om oo)<|Gr (Fz (xs:=ab) ty152 C (Cw mm) om oo)<|Gc0 (Ac c_ C C<|Least_ok (e_ ab dd)<|A8 hT Ah) ?_
   have a9:=ap.takes (d:=(dd:Int)) om om bb hz aq
   generalize hvE:tzB (e_ ab dd)=v at a9 ⊢
   obtain ⟨ba,bi⟩:=a9
   have ar:=ba.mem
   have b5:=ap.rng v ar
   refine Ga C<|As<|Bg (S9 12 11 2 3 4 5 6 9 10 C C C C C C C C C)<|Ar<|Gm C<|Gm C<|Gr (Runs.max C C) ?_
   have bh:(if (kk:Int)<(dd:Int) then (dd:Int) else (kk:Int))=(((max kk dd):Nat):Int):=by split<;>omega
   rw [bh]
   refine Ga C<|As<|Bg (S9 10 12 11 2 3 4 5 6 9 C C C C C C C C C)<|Ar<|Gm C<|Gm C<|Gm C<|Gr (Az (α:=Int) (xs:=numL (ek nd es).length done) Aa ef C C A7 om oo)<|Ge0 (Ci (α:=Int) (xs:=numL (ek nd es).length done) (e:=3) (new:=(((max kk dd):Nat):Int)) ef C C C om oo am) ?_
   refine As<|Ar<|Gm C<|Gm C<|Ge1 (B9 (α:=Int) (cs:=[_]) (xs:=[v]) Aa ef C C dc dc C C C C) λbj=>?_
   refine Ge2 (B4 (α:=Int) (e:=3) (xs:=ordL done) (ys:=([v]:List Int)) Aa ef C C C mm A7 lcn dc C<|λ_ _=>am) λax au=>?_
   refine Ga C<|As<|Bg (S9 2 10 12 11 3 4 5 6 9 C C C C C C C C C)<|Ar<|Gm C<|Gm C<|G.e (Ac c_ C C<|Bit_ok v) ?_
   rintro _ _ ⟨_,_,⟨rfl,rfl⟩,rfl,rfl⟩
   rw [show bitB v=1#64 <<< (v).toNat from bit_sh om om]
   refine Gr (D1 (a:=left) (b:=1#64 <<< (v).toNat) C C)<|Ga C<|As<|Bg (S9 9 2 10 12 11 3 4 5 6 C C C C C C C C C)<|A5<|A4 mixed<|Cr 7<|Dr 0 C (Af C)<|Dr 1 C (Cb C5 ty152 C C om oo)<|Dr 2 C (Fz (xs:=ab) ty152 C (Cw mm) om oo)<|Dr 3 C (Af C)<|Ds1 4<|Se C (Ac c_ C C<|Bit_ok v) ?_
   rintro _ _ ⟨_,_,⟨rfl,rfl⟩,rfl,rfl⟩
   refine ⟨Ah,?_⟩
   rw [show bitB v=1#64 <<< (v).toNat from bit_sh om om]
   refine Dr 5 C (D1 (a:=e_ ab dd) (b:=1#64 <<< (v).toNat) C C)<|Dr 6 C (Cb C5 ty152 C C om oo)<|C3 kr ?_
   refine Ae 7 C (Eff.setAU (xs:=ab) (i:=(dd:Int)) (n:=(e_ ab dd) &&& ~~~(1#64 <<< (v).toNat)) ty152 C C C om oo am) ?_
   rintro _ _ ⟨rfl,rfl⟩
   refine C4 kr ?_
   refine Ay<|Bg (S8 9 2 10 12 3 4 5 6 C C C C C C C C)<|A5<|Ar<|Gm C<|Gm C<|Gr (Az (α:=(BitVec 64)) (xs:=ek nd es) Cl ty152 C C A7 om oo)<|Gr (Dj (α:=(BitVec 64)) (xs:=ek nd es) (u:=U64 ((e_ (ek nd es) v))) ty152 C A7 om oo C)<|Gm C<|Gr (Cz (a:=(e_ (ek nd es) v)) (b:=left &&& ~~~(1#64 <<< (v).toNat)) C C)<|Gc2 (Ac c_ C C<|MList_ok ((e_ (ek nd es) v) &&& (left &&& ~~~(1#64 <<< (v).toNat)))<|A8 hT Ah) λaz a1=>?_
   refine Gr (Ca Aa C)<|Gm C<|As<|Bg (S10 92 91 90 9 2 10 3 4 5 6 C C C C C C C C C C)<|Bk<|Cn (σ:=Nat×(List Int)×(List<|BitVec 64)) (λs=>([(2,.slice ax ((ordL done)++([v]:List Int)).length au),(3,.slice ai (replicate ((ek nd es).length) (default:Int)).length ak),(4,.slice ad (ek nd es).length ae),(5,.pointer<|some ⟨b4,0,none⟩),(6,.slice aj (replicate ((ek nd es).length) (default:Int)).length ah),(9,U64<|left &&& ~~~(1#64 <<< (v).toNat)),(10,e7<|(((max kk dd):Nat):Int)),(90,.slice az (eo<|(e_ (ek nd es) v) &&& (left &&& ~~~(1#64 <<< (v).toNat))).length a1),(91,e7<|(((eo<|(e_ (ek nd es) v) &&& (left &&& ~~~(1#64 <<< (v).toNat))).length:Nat):Int)),(92,e7 ((s.1:Nat):Int))]:Env)) (λs=>vc 3 (.slice az (eo<|(e_ (ek nd es) v) &&& (left &&& ~~~(1#64 <<< (v).toNat))).length a1) (eo<|(e_ (ek nd es) v) &&& (left &&& ~~~(1#64 <<< (v).toNat)))::vc 3 (.slice bj 1 1) (([v]:List Int))::vc 3 (.slice ax ((ordL done)++([v]:List Int)).length au) ((ordL done)++([v]:List Int))::vc 3 (.slice ai (replicate ((ek nd es).length) (default:Int)).length ak) (List.set (numL (ek nd es).length done) (v).toNat ((((max kk dd):Nat):Int)))::vc 3 (.slice aj (replicate ((ek nd es).length) (default:Int)).length ah) (s.2.1)::e8 b4 (cells (s.2.2:List (BitVec 64))) 245::vc 152 (.slice ad (ek nd es).length ae) (ek nd es)::e8 b1 [e7 nd,va] 56::I) (λs=>(s.1<=(eo<|e_ (ek nd es) v &&& (left &&& ~~~(1#64 <<< (v).toNat))).length)/\(BkOk (ek nd es).length (λu=>u∈eo (left &&& ~~~(1#64 <<< (v).toNat))) (degM (ek nd es) left (eo<|e_ (ek nd es) v &&& (left &&& ~~~(1#64 <<< (v).toNat))) s.1) s.2.1 s.2.2)) (λs=>(eo<|e_ (ek nd es) v &&& (left &&& ~~~(1#64 <<< (v).toNat))).length - s.1) (0,ay,List.set ab ((dd:Int)).toNat ((e_ ab dd) &&& ~~~(1#64 <<< (v).toNat))) ⟨om,((ap.drop ar bi om<|λu=>mem_minus om).congr (λu=>Iff.rfl) (λu _=>degM_zero _ _ _ u))⟩ (Ab C<|Ab C<|Ab C<|Ab C<|Ab C<|Ab C<|Ab C<|Ab C<|Ab C<|Ab Dg Bs) Aj ?_
   rintro ⟨j,M,aa⟩ hp
   dsimp only at hp ⊢
   obtain ⟨hj,an⟩:=hp
   have bz:=an.dlen
   have b2:=an.blen
   have bx:(eo<|e_ (ek nd es) v &&& (left &&& ~~~(1#64 <<< (v).toNat))).length<=64:=Ee _
   have br:j<(eo<|e_ (ek nd es) v &&& (left &&& ~~~(1#64 <<< (v).toNat))).length->(e_ (eo<|e_ (ek nd es) v &&& (left &&& ~~~(1#64 <<< (v).toNat))) (j:Int))∈eo (left &&& ~~~(1#64 <<< (v).toNat))/\(e_ (eo<|e_ (ek nd es) v &&& (left &&& ~~~(1#64 <<< (v).toNat))) (j:Int))∈eo (e_ (ek nd es) v):=λh=>by have h1:=Bx (xs:=(eo<|e_ (ek nd es) v &&& (left &&& ~~~(1#64 <<< (v).toNat)))) (i:=(j:Int)) om om;exact ⟨(mem_andB.1 h1).2,(mem_andB.1 h1).1⟩
   refine Ar<|Gr (Ch C C)<|As<|A5<|Ap C (λbn=>?_)<|λbn=>?_
   ·refine Bt (Ay<|A5<|Bk<|Ar<|Gr (Az (α:=Int) (xs:=eo ((e_ (ek nd es) v) &&& (left &&& ~~~(1#64 <<< (v).toNat)))) Aa ef C C A7 om oo)<|Gr (Bj (xs:=eo ((e_ (ek nd es) v) &&& (left &&& ~~~(1#64 <<< (v).toNat)))) ef C A7 om oo)<|Ga C ?_)
    have av:=br om
    have b6:=an.rng (e_ (eo<|e_ (ek nd es) v &&& (left &&& ~~~(1#64 <<< (v).toNat))) (j:Int)) av.1
    have aw:=an.deg (e_ (eo<|e_ (ek nd es) v &&& (left &&& ~~~(1#64 <<< (v).toNat))) (j:Int)) av.1
    have be:=aw
    have a5:=degM_now (rows:=ek nd es) (left:=left) (ws:=(eo<|e_ (ek nd es) v &&& (left &&& ~~~(1#64 <<< (v).toNat)))) (j:=j) om (Dq _)
    have bp:(e_ (eo<|e_ (ek nd es) v &&& (left &&& ~~~(1#64 <<< (v).toNat))) (j:Int))∈eo left:=((mem_minus om).1 av.1).1
    have bw:=aq (e_ (eo<|e_ (ek nd es) v &&& (left &&& ~~~(1#64 <<< (v).toNat))) (j:Int)) bp
    have b8:1<=degB (ek nd es) left (e_ (eo<|e_ (ek nd es) v &&& (left &&& ~~~(1#64 <<< (v).toNat))) (j:Int)):=List.length_pos_of_mem (mem_andB.2 ⟨hS.sym v (e_ (eo<|e_ (ek nd es) v &&& (left &&& ~~~(1#64 <<< (v).toNat))) (j:Int)) om om av.2,ar⟩)
    rw [a5] at be
    refine As<|Bg (S11 14 2 3 4 5 6 9 10 90 91 92 C C C C C C C C C C C)<|A5<|A4 mixed<|Cr 10<|Dr 0 C (Af C)<|Dr 1 C (Af C)<|Dr 2 C (Az (α:=Int) (xs:=M) Aa ef C C A7 om oo)<|Dr 3 C (Bj (xs:=M) ef C A7 om oo)<|Dr 4 C (Cb C5 ty152 C C om oo)<|Dr 5 C (Fz (xs:=aa) ty152 C (Cw mm) om oo)<|Dr 6 C (Af C)<|Ds1 7<|Se C (Ac c_ C C<|Bit_ok<|e_ (eo<|(e_ (ek nd es) v) &&& (left &&& ~~~(1#64 <<< (v).toNat))) (j:Int)) ?_
    rintro _ _ ⟨_,_,⟨rfl,rfl⟩,rfl,rfl⟩
    refine ⟨Ah,?_⟩
    refine Dr 8 C (D1 (a:=e_ aa (e_ M<|e_ (eo<|(e_ (ek nd es) v) &&& (left &&& ~~~(1#64 <<< (v).toNat))) (j:Int))) (b:=bitB (e_ (eo<|(e_ (ek nd es) v) &&& (left &&& ~~~(1#64 <<< (v).toNat))) (j:Int))) C C)<|Dr 9 C (Cb C5 ty152 C C om oo)<|C3 kr ?_
    refine Ae 10 C (Eff.setAU (xs:=aa) (i:=e_ M (e_ (eo<|(e_ (ek nd es) v) &&& (left &&& ~~~(1#64 <<< (v).toNat))) (j:Int))) (n:=(e_ aa<|e_ M<|e_ (eo<|(e_ (ek nd es) v) &&& (left &&& ~~~(1#64 <<< (v).toNat))) (j:Int)) &&& ~~~(bitB<|e_ (eo<|(e_ (ek nd es) v) &&& (left &&& ~~~(1#64 <<< (v).toNat))) (j:Int))) ty152 C C C om oo am) ?_
    rintro _ _ ⟨rfl,rfl⟩
    refine C4 kr ?_
    refine Ay<|Bg (S11 14 2 3 4 5 6 9 10 90 91 92 C C C C C C C C C C C)<|Ar<|Gm C<|Gm C<|Gr (Az (α:=Int) (xs:=M) Aa ef C C A7 om oo)<|Gr (Bj (xs:=M) ef C A7 om oo)<|Gr (Rsu C C)<|Gr (Az (α:=Int) (xs:=M) Aa ef C C A7 om oo)<|Ge0 (Ci (α:=Int) (xs:=M) (e:=3) (new:=(e_ M<|e_ (eo<|(e_ (ek nd es) v) &&& (left &&& ~~~(1#64 <<< (v).toNat))) (j:Int)) - 1) ef C C C om oo am) ?_
    have a3:e_ (List.set M (e_ (eo<|(e_ (ek nd es) v) &&& (left &&& ~~~(1#64 <<< (v).toNat))) (j:Int)).toNat ((e_ M<|e_ (eo<|(e_ (ek nd es) v) &&& (left &&& ~~~(1#64 <<< (v).toNat))) (j:Int)) - 1)) (e_ (eo<|e_ (ek nd es) v &&& (left &&& ~~~(1#64 <<< (v).toNat))) (j:Int))=e_ M (e_ (eo<|e_ (ek nd es) v &&& (left &&& ~~~(1#64 <<< (v).toNat))) (j:Int)) - 1:=by rw [C2 _ _ _ _ om om om,if_pos rfl]
    refine As<|Bg (S11 14 2 3 4 5 6 9 10 90 91 92 C C C C C C C C C C C)<|A4 mixed<|Cr 10<|Dr 0 C (Af C)<|Dr 1 C (Af C)<|Dr 2 C (Az (α:=Int) (xs:=List.set M (e_ (eo<|(e_ (ek nd es) v) &&& (left &&& ~~~(1#64 <<< (v).toNat))) (j:Int)).toNat ((e_ M<|e_ (eo<|(e_ (ek nd es) v) &&& (left &&& ~~~(1#64 <<< (v).toNat))) (j:Int)) - 1)) Aa ef C C A7 om oo)<|Dr 3 C (Bj (xs:=List.set M (e_ (eo<|(e_ (ek nd es) v) &&& (left &&& ~~~(1#64 <<< (v).toNat))) (j:Int)).toNat ((e_ M<|e_ (eo<|(e_ (ek nd es) v) &&& (left &&& ~~~(1#64 <<< (v).toNat))) (j:Int)) - 1)) ef C A7 om oo)<|Dr 4 C (Cb C5 ty152 C C om oo)<|Dr 5 C (Fz (xs:=List.set aa (e_ M<|e_ (eo<|(e_ (ek nd es) v) &&& (left &&& ~~~(1#64 <<< (v).toNat))) (j:Int)).toNat ((e_ aa<|e_ M<|e_ (eo<|(e_ (ek nd es) v) &&& (left &&& ~~~(1#64 <<< (v).toNat))) (j:Int)) &&& ~~~(bitB<|e_ (eo<|(e_ (ek nd es) v) &&& (left &&& ~~~(1#64 <<< (v).toNat))) (j:Int)))) ty152 C (Cw mm) om oo)<|Dr 6 C (Af C)<|Ds1 7<|Se C (Ac c_ C C<|Bit_ok<|e_ (eo<|(e_ (ek nd es) v) &&& (left &&& ~~~(1#64 <<< (v).toNat))) (j:Int)) ?_
    rintro _ _ ⟨_,_,⟨rfl,rfl⟩,rfl,rfl⟩
    refine ⟨Ah,?_⟩
    refine Dr 8 C (Ey (a:=e_ (List.set aa (e_ M<|e_ (eo<|(e_ (ek nd es) v) &&& (left &&& ~~~(1#64 <<< (v).toNat))) (j:Int)).toNat ((e_ aa<|e_ M<|e_ (eo<|(e_ (ek nd es) v) &&& (left &&& ~~~(1#64 <<< (v).toNat))) (j:Int)) &&& ~~~(bitB<|e_ (eo<|(e_ (ek nd es) v) &&& (left &&& ~~~(1#64 <<< (v).toNat))) (j:Int)))) (e_ (List.set M (e_ (eo<|(e_ (ek nd es) v) &&& (left &&& ~~~(1#64 <<< (v).toNat))) (j:Int)).toNat ((e_ M<|e_ (eo<|(e_ (ek nd es) v) &&& (left &&& ~~~(1#64 <<< (v).toNat))) (j:Int)) - 1))<|e_ (eo<|(e_ (ek nd es) v) &&& (left &&& ~~~(1#64 <<< (v).toNat))) (j:Int))) (b:=bitB (e_ (eo<|(e_ (ek nd es) v) &&& (left &&& ~~~(1#64 <<< (v).toNat))) (j:Int))) C C)<|Dr 9 C (Cb C5 ty152 C C om oo)<|C3 kr ?_
    refine Ae 10 C (Eff.setAU (xs:=List.set aa (e_ M<|e_ (eo<|(e_ (ek nd es) v) &&& (left &&& ~~~(1#64 <<< (v).toNat))) (j:Int)).toNat ((e_ aa<|e_ M<|e_ (eo<|(e_ (ek nd es) v) &&& (left &&& ~~~(1#64 <<< (v).toNat))) (j:Int)) &&& ~~~(bitB<|e_ (eo<|(e_ (ek nd es) v) &&& (left &&& ~~~(1#64 <<< (v).toNat))) (j:Int)))) (i:=e_ (List.set M (e_ (eo<|(e_ (ek nd es) v) &&& (left &&& ~~~(1#64 <<< (v).toNat))) (j:Int)).toNat ((e_ M<|e_ (eo<|(e_ (ek nd es) v) &&& (left &&& ~~~(1#64 <<< (v).toNat))) (j:Int)) - 1)) (e_ (eo<|(e_ (ek nd es) v) &&& (left &&& ~~~(1#64 <<< (v).toNat))) (j:Int))) (n:=(e_ (List.set aa (e_ M<|e_ (eo<|(e_ (ek nd es) v) &&& (left &&& ~~~(1#64 <<< (v).toNat))) (j:Int)).toNat ((e_ aa<|e_ M<|e_ (eo<|(e_ (ek nd es) v) &&& (left &&& ~~~(1#64 <<< (v).toNat))) (j:Int)) &&& ~~~(bitB<|e_ (eo<|(e_ (ek nd es) v) &&& (left &&& ~~~(1#64 <<< (v).toNat))) (j:Int))))<|e_ (List.set M (e_ (eo<|(e_ (ek nd es) v) &&& (left &&& ~~~(1#64 <<< (v).toNat))) (j:Int)).toNat ((e_ M<|e_ (eo<|(e_ (ek nd es) v) &&& (left &&& ~~~(1#64 <<< (v).toNat))) (j:Int)) - 1))<|e_ (eo<|(e_ (ek nd es) v) &&& (left &&& ~~~(1#64 <<< (v).toNat))) (j:Int)) ||| (bitB<|e_ (eo<|(e_ (ek nd es) v) &&& (left &&& ~~~(1#64 <<< (v).toNat))) (j:Int))) ty152 C C C om oo am) ?_
    rintro _ _ ⟨rfl,rfl⟩
    refine C4 kr ?_
    exact Av<|Ay<|Bg (S10 2 3 4 5 6 9 10 90 91 92 C C C C C C C C C C)<|Be<|Gr (Rad C C)<|Gm C<|Bi<|B5 ((j+1),(List.set M (e_ (eo<|(e_ (ek nd es) v) &&& (left &&& ~~~(1#64 <<< (v).toNat))) (j:Int)).toNat ((e_ M<|e_ (eo<|(e_ (ek nd es) v) &&& (left &&& ~~~(1#64 <<< (v).toNat))) (j:Int)) - 1)),(List.set (List.set aa (e_ M<|e_ (eo<|(e_ (ek nd es) v) &&& (left &&& ~~~(1#64 <<< (v).toNat))) (j:Int)).toNat ((e_ aa<|e_ M<|e_ (eo<|(e_ (ek nd es) v) &&& (left &&& ~~~(1#64 <<< (v).toNat))) (j:Int)) &&& ~~~(bitB<|e_ (eo<|(e_ (ek nd es) v) &&& (left &&& ~~~(1#64 <<< (v).toNat))) (j:Int)))) (e_ (List.set M (e_ (eo<|(e_ (ek nd es) v) &&& (left &&& ~~~(1#64 <<< (v).toNat))) (j:Int)).toNat ((e_ M<|e_ (eo<|(e_ (ek nd es) v) &&& (left &&& ~~~(1#64 <<< (v).toNat))) (j:Int)) - 1))<|e_ (eo<|(e_ (ek nd es) v) &&& (left &&& ~~~(1#64 <<< (v).toNat))) (j:Int)).toNat ((e_ (List.set aa (e_ M<|e_ (eo<|(e_ (ek nd es) v) &&& (left &&& ~~~(1#64 <<< (v).toNat))) (j:Int)).toNat ((e_ aa<|e_ M<|e_ (eo<|(e_ (ek nd es) v) &&& (left &&& ~~~(1#64 <<< (v).toNat))) (j:Int)) &&& ~~~(bitB<|e_ (eo<|(e_ (ek nd es) v) &&& (left &&& ~~~(1#64 <<< (v).toNat))) (j:Int))))<|e_ (List.set M (e_ (eo<|(e_ (ek nd es) v) &&& (left &&& ~~~(1#64 <<< (v).toNat))) (j:Int)).toNat ((e_ M<|e_ (eo<|(e_ (ek nd es) v) &&& (left &&& ~~~(1#64 <<< (v).toNat))) (j:Int)) - 1))<|e_ (eo<|(e_ (ek nd es) v) &&& (left &&& ~~~(1#64 <<< (v).toNat))) (j:Int)) ||| (bitB<|e_ (eo<|(e_ (ek nd es) v) &&& (left &&& ~~~(1#64 <<< (v).toNat))) (j:Int)))))<|by dsimp only;exact ⟨om,(by have hN:=an.lower om (w:=(e_ (eo<|e_ (ek nd es) v &&& (left &&& ~~~(1#64 <<< (v).toNat))) (j:Int))) (e:=e_ M (e_ (eo<|e_ (ek nd es) v &&& (left &&& ~~~(1#64 <<< (v).toNat))) (j:Int))) av.1 aw.symm om om (dg':=degM (ek nd es) left (eo<|e_ (ek nd es) v &&& (left &&& ~~~(1#64 <<< (v).toNat))) (j+1)) (λu _=>degM_succ om (Dq _) u);rw [a3,bit_sh om om];exact hN)⟩
   exact C7<|A9<|A9<|B3<|Ay<|C7<|V.block_miss C<|A9<|A9<|V.block_miss C<|B3<|B5 ((done++[(v,max kk dd)]),((left &&& ~~~(1#64 <<< (v).toNat))),(max kk dd),(M),(aa),(ax),(au)) (by dsimp only;exact ⟨(core_step hc ba om),(an.congr (λu=>Iff.rfl) (λu hu=>by have hr:=an.rng u hu;exact (degM_all hS om om ar hr.1 hr.2 hu om).symm)),(by have:=listB_minus ar;simp only [List.length_append,List.length_cons,List.length_nil];omega),om⟩) (hlt:=by (try dsimp only);exact (by have:=listB_minus ar;omega)) (hL:=(Ab (El C<|by first|rfl|(rw [ordL_snoc])|simp)<|Ab C<|Ab C<|Ab C<|Ab C<|Ab (El C<|by first|rfl|(rw [ordL_snoc])|simp)<|Ab C Bs)) (hI:=by (try dsimp only);exact (by rw [ordL_snoc,numL_snoc];exact Bb))
  exact (ap.some (Classical.not_not.1<|λh=>h asm) aq<|λc h1 h2=>hz c h1 om).elim
 refine C7<|A9<|A9<|B3<|Ay<|Ar<|Gm C<|Gm C<|Ga C<|Ga C<|As<|Bf<|V.jump_ret ?_
 have bg:left=0#64:=Classical.not_not.1 a8
 have bk:done=coreR0 nd es:=by rw [←hc,bg,coreR_zero,List.append_nil]
 subst bk
 have a7:=coreL_len nd es
 exact Cy C C C (vc 3 (.slice ao (coreO nd es).length co) (coreO nd es)::vc 3 (.slice ai (coreL nd es).length ak) (coreL nd es)::I) (by rw [a7];simp only [List.length_replicate];exact Bb) ⟨ao,co,ai,ak,by rw [a7];simp only [List.length_replicate];rfl,rfl⟩
end Go.Sl
namespace Go.Sl
open Go.Proofs
set_option maxRecDepth 4000
variable{nd:Int}{va:Value}{es:List Pt}
variable {κ:Ctx}{I:List Item}
attribute [local irreducible] W G V D A Runs Eff
theorem CNumbers_ok(hl:Sl κ I va es)(hT:TabRd κ I 0 tzCells):eu prog κ 77 [.agg #[e7 nd,va]] I (λr J=>∃a c,r = .tuple #[.slice a (coreN nd es).length c,e7 (checkG nd es)]/\J=vc 3 (.slice a (coreN nd es).length c) (coreN nd es)::I):=by
 refine Ce1 Tryz.func77 C C ?_
 refine Ar<|Ge1 (Al (cs:=[_,_]) C C C) λb1=>Z ?_
 refine Gc0 (Ac c_ C C<|CheckGen_ok<|Au hl)<|Z ?_
 refine Ap C (λc10=>Z ?_)<|λc10=>Z ?_
 ·have hX:(coreN nd es)=[]:=if_pos c10
  exact Cy C C C (vc 3 (.slice none (coreN nd es).length 0) (coreN nd es)::I) (by rw [hX];exact Ak (show Fit κ _ I from Ah)<|Bw _ _) ⟨none,0,by rw [hX];rfl,rfl⟩
 refine G.e (Ac c_ C C<|CPeel_ok (nd:=nd) (Au hl) (checkG_ok.1<|Classical.not_not.1 c10)<|A8 hT Ah) ?_
 rintro _ _ ⟨_,_,⟨ad,ab,M,aa,rfl,rfl⟩,rfl,rfl⟩
 refine Z ?_
 have hX:(coreN nd es)=_:=if_neg c10
 have hz:checkG nd es=0:=Classical.not_not.1 c10
 exact Cy C C C (vc 3 (.slice M (coreN nd es).length aa) (coreN nd es)::I) (by rw [hX];exact Aj) ⟨M,aa,by rw [hX,hz]<;>rfl,rfl⟩
theorem coreN_len(nd:Int)(es:List Pt):(coreN nd es).length<=64:=by
 unfold coreN
 split
 ·simp
 rw [coreL_len,Fm];omega
theorem CCore_ok{lv:Int}(hl:Sl κ I va es)(hT:TabRd κ I 0 tzCells):eu prog κ 115 [.agg #[e7 nd,va],e7 lv] I (λr J=>∃a c,r = .tuple #[.slice a (coreK nd es lv).length c,e7 (checkG nd es)]/\J=vc 3 (.slice a (coreK nd es lv).length c) (coreK nd es lv)::I):=by
 have ai:=coreN_len nd es
 refine Ce2 Tryz.func115 C C ?_
 refine Ar<|Ge1 (Al (cs:=[_,_]) C C C) λb1=>Z ?_
 refine Gc2 (Ac c_ C C<|CNumbers_ok (nd:=nd) (Au hl)<|A8 hT Ah) λaa M=>Z ?_
 refine Cn (σ:=Nat×(Option Addr)×Nat×(List Int)) (λs=>([(1,e7 lv),(7,e7<|checkG nd es),(8,.slice s.2.1 s.2.2.2.length s.2.2.1),(16,.slice aa (coreN nd es).length M),(17,e7<|(((coreN nd es).length:Nat):Int)),(18,e7 ((s.1:Nat):Int))]:Env)) (λs=>vc 3 (.slice s.2.1 s.2.2.2.length s.2.2.1) (s.2.2.2)::vc 3 (.slice aa (coreN nd es).length M) (coreN nd es)::e8 b1 [e7 nd,va] 56::I) (λs=>(s.1<=(coreN nd es).length)/\(s.2.2.2=sideL s.1 (λv=>decide<|lv<=e_ (coreN nd es) v))) (λs=>(coreN nd es).length - s.1) (0,none,0,[]) ⟨om,rfl⟩ (Ab C<|Ab C<|Ab (El C<|by first|rfl|simp)<|Ab C<|Ab C<|Ab Dg Bs) (Bw _ _) ?_
 rintro ⟨k,a,c,out⟩ hp
 dsimp only at hp ⊢
 obtain ⟨hk,ho⟩:=hp
 have an:out.length<=k:=by rw [ho];exact sideL_len _ _
 have aj:=coreN_len nd es
 refine Ar<|Gr (Ch C C)<|As<|A5<|Ap C (λab=>?_)<|λab=>?_
 ·refine Bt (Ay<|A5<|Bk<|Ar<|Gm C<|Gr (Az (α:=Int) (xs:=coreN nd es) Aa ef C C A7 om om)<|Gr (Bj (xs:=coreN nd es) ef C A7 om om)<|Ga C<|Ga C<|As<|Ar<|Gm C<|Gm C<|Gr (Ff C C)<|As<|Bg (S8 25 9 1 7 8 16 17 18 C C C C C C C C)<|Ap C (λad=>?_)<|λad=>?_)
  ·refine Be (Gm C<|Gm C<|Ge1 (B9 (α:=Int) (cs:=[_]) (xs:=[(k:Int)]) Aa ef C C dc dc C C C C) λak=>?_)
   refine Ge2 (B4 (α:=Int) (e:=3) (xs:=out) (ys:=([(k:Int)]:List Int)) Aa ef C C C mm A7 lcn dc C<|λ_ _=>am) λah ae=>?_
   exact Ga C<|Bi<|Av<|Ay<|Be<|Gr (Rad C C)<|Gm C<|Bi<|B5 ((k+1),(ah),(ae),(out++([(k:Int)]:List Int)))<|by dsimp only;exact ⟨om,(by first|(rw [sideL_yes (decide_eq_true asm),←ho])|(rw [sideL_no (decide_eq_false asm),←ho]))⟩
  exact Bt<|Av<|Ay<|Be<|Gr (Rad C C)<|Gm C<|Bi<|B5 ((k+1),(a),(c),(out))<|by dsimp only;exact ⟨om,(by first|(rw [sideL_yes (decide_eq_true asm),←ho])|(rw [sideL_no (decide_eq_false asm),←ho]))⟩
 refine C7<|A9<|A9<|B3<|Ay<|Ar<|Gm C<|Gm C<|Ga C<|Ga C<|As<|Bf ?_
 have hE:out=(coreK nd es lv):=by rw [ho,show k=(coreN nd es).length by omega];rfl
 exact Cy C C C (vc 3 (.slice a (coreK nd es lv).length c) (coreK nd es lv)::I) (by rw [←hE];exact Aj) ⟨a,c,by rw [←hE],rfl⟩
end Go.Sl
