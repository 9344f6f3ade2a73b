/- A part of the proofs of statements of this seat: contracts of functions, and the plain laws that they lean on. No conditions. -/
import Derived.Test.YtfkcohmipjhfcaaGreatDoorF17
set_option linter.unusedVariables false
set_option linter.unusedSimpArgs false
set_option linter.unusedSectionVars false
namespace Go.Sl
open Go.Proofs
set_option maxRecDepth 4000
theorem listB_rng{m:BitVec 64}{x:Int}(h:x∈listB m):0≤x∧x<64:=listB_lt h
theorem listB_ne{m:BitVec 64}(h:m≠0#64):listB m≠[]:=by rw [listB_step h];exact List.cons_ne_nil _ _
abbrev natB(m:Nat):BitVec 64:=BitVec.ofNat 64 m
theorem natB_nat{m:Nat}(h:m<4611686018427387904):(natB m).toNat=m:=by unfold natB;rw [BitVec.toNat_ofNat];exact Nat.mod_eq_of_lt om
theorem bits_andI{a c:BitVec 64}(h:a.toNat<9223372036854775808):bits .and .i64 (a.toNat:Int) (c.toNat:Int)=((a &&& c).toNat:Int):=by
 have hl:(a &&& c).toNat≤a.toNat:=by rw [BitVec.toNat_and];exact Nat.and_le_left
 unfold bits
 show IntKind.i64.wrap ((BitVec.ofInt 64 (a.toNat:Int) &&& BitVec.ofInt 64 (c.toNat:Int)).toNat:Int)=_
 rw [show BitVec.ofInt 64 (a.toNat:Int)=a from ofInt_toNat64 a,show BitVec.ofInt 64 (c.toNat:Int)=c from ofInt_toNat64 c,IntKind.wrap_i64]
 omega
section
variable {P:Program}{κ:Ctx}{N:Frm}{L:Env}{J:List Item}{d:Option Tmp}{ty:TypeId}{ps:String}{af:Array Edge}{gd:Option (Nat×Bool)}{x y:Operand}{T U:TypeId}{k':IntKind}
theorem Runs.andBI{m n:Int}{a c:BitVec 64}(hx:evalO L x=some (I64 m))(hy:evalO L y=some (I64 n))(hm:m=((a.toNat:Nat):Int))(hn:n=((c.toNat:Nat):Int))(h:a.toNat<9223372036854775808):Runs P κ N ⟨d,.binOp .and T x y U,ty,ps,af,gd⟩ L J (I64 (((a &&& c).toNat:Nat):Int)):=fun act w ha _=>by
 subst hm hn
 simp only [execOp,ha.eval hx,ha.eval hy]
 simp [go_sem,bits_andI h]
theorem Runs.shrBI{m n:Int}{a:BitVec 64}(hx:evalO L x=some (I64 m))(hy:evalO L y=some (.int k' n))(hm:m=((a.toNat:Nat):Int))(h0:0≤n)(h1:n<64):Runs P κ N ⟨d,.binOp .shr T x y U,ty,ps,af,gd⟩ L J (I64 (((a >>> n.toNat).toNat:Nat):Int)):=by
 subst hm
 have h:=Runs.shrw (P:=P) (κ:=κ) (N:=N) (J:=J) (d:=d) (ty:=ty) (ps:=ps) (af:=af) (gd:=gd) (T:=T) (U:=U) hx hy h0
 have e:((a.toNat:Nat):Int).fdiv (2 ^ Min.min n.toNat IntKind.i64.bits)=(((a >>> n.toNat).toNat:Nat):Int):=by
  rw [show Min.min n.toNat IntKind.i64.bits=n.toNat by show Min.min n.toNat 64=_;omega,Int.fdiv_eq_ediv_of_nonneg _ (Int.pow_nonneg dc),BitVec.toNat_ushiftRight,Nat.shiftRight_eq_div_pow,Int.natCast_ediv,Int.natCast_pow];rfl
 rwa [e] at h
theorem Runs.shl1{n:Int}(hx:evalO L x=some (I64 1))(hy:evalO L y=some (.int k' n))(h0:0≤n)(h1:n≤20):Runs P κ N ⟨d,.binOp .shl T x y U,ty,ps,af,gd⟩ L J (I64 ((2 ^ n.toNat:Nat):Int)):=by
 have h:=Runs.shlw (P:=P) (κ:=κ) (N:=N) (J:=J) (d:=d) (ty:=ty) (ps:=ps) (af:=af) (gd:=gd) (T:=T) (U:=U) hx hy h0
 have e:IntKind.i64.wrap ((1:Int)*2 ^ Min.min n.toNat IntKind.i64.bits)=((2 ^ n.toNat:Nat):Int):=by
  have hp:(2:Nat) ^ n.toNat≤2 ^ 20:=Nat.pow_le_pow_right dc om
  rw [show Min.min n.toNat IntKind.i64.bits=n.toNat by show Min.min n.toNat 64=_;omega,Int.one_mul,IntKind.wrap_i64,show (2:Int) ^ n.toNat=((2 ^ n.toNat:Nat):Int) by rw [Int.natCast_pow];rfl]
  generalize 2 ^ n.toNat=q at hp ⊢
  omega
 rwa [e] at h
end
theorem pred_nat{b:BitVec 64}(h:0<b.toNat):((b.toNat:Nat):Int) - 1=(((b - 1#64).toNat:Nat):Int):=by
 rw [BitVec.toNat_sub,show (1#64).toNat=1 from rfl]
 have:=b.isLt
 omega
theorem pred_le{b:BitVec 64}:(b &&& (b - 1#64)).toNat≤b.toNat:=by rw [BitVec.toNat_and];exact Nat.and_le_left
theorem ne_of_pos{b:BitVec 64}(h:0<b.toNat):b≠0#64:=fun e=>by rw [e] at h;simp at h
theorem bit_shr{s:BitVec 64}{v:Nat}:((s >>> v) &&& 1#64).toNat=if s.getLsbD v=true then 1 else 0:=by
 rw [BitVec.toNat_and,show (1#64).toNat=1 from rfl,Nat.and_one_is_mod,BitVec.toNat_ushiftRight]
 have:s.getLsbD v=(s.toNat >>> v).testBit 0:=by rw [Nat.testBit_shiftRight,Nat.add_zero];rfl
 rw [this,Nat.testBit_zero]
 by_cases h:s.toNat >>> v % 2=1
 ·simp [h]
 ·have:s.toNat >>> v % 2=0:=by omega
  simp [this]
theorem shr_none{s:BitVec 64}{v:Nat}(h:(s >>> v).toNat=0)(i:Nat)(hi:v≤i):s.getLsbD i=false:=by
 have e:s >>> v=0#64:=BitVec.eq_of_toNat_eq h
 have:=congrArg (fun b=>BitVec.getLsbD b (i - v)) e
 simp only [BitVec.getLsbD_ushiftRight,BitVec.getLsbD_zero] at this
 rwa [show v+(i - v)=i by omega] at this
theorem shr_bound{s:BitVec 64}{v:Nat}(hs:s.toNat<4611686018427387904)(h:0<(s >>> v).toNat):v<62:=Nat.not_le.1 fun hv=>by
 rw [BitVec.toNat_ushiftRight,Nat.shiftRight_eq_div_pow] at h
 have hp:(2:Nat) ^ 62≤2 ^ v:=Nat.pow_le_pow_right dc hv
 rw [Nat.div_eq_of_lt om] at h;omega
theorem set_step{s:BitVec 64}{v:Nat}(hv:v<64):(listB s).filter (fun x=>decide (x<((v+1:Nat):Int)))=(listB s).filter (fun x=>decide (x<(v:Int)))++(if s.getLsbD v=true then [(v:Int)] else []):=by
 refine intLin.uniq ((listB_asc s).sublist List.filter_sublist) ?_ fun x=>?_
 ·rw [List.pairwise_append]
  refine ⟨(listB_asc s).sublist List.filter_sublist,by split<;>simp,fun a ha b hb=>?_⟩
  have h1:=of_decide_eq_true (List.mem_filter.1 ha).2
  split at hb
  ·rw [List.mem_singleton] at hb;omega
  ·cases hb
 ·rw [List.mem_append,List.mem_filter,List.mem_filter,decide_eq_true_eq,decide_eq_true_eq,D7]
  constructor
  ·rintro ⟨⟨h0,h1⟩,h2⟩
   by_cases e:x<(v:Int)
   ·exact .inl ⟨⟨h0,h1⟩,e⟩
   ·have e2:x=(v:Int):=by omega
    rw [e2,Int.toNat_natCast] at h1
    rw [if_pos h1,e2];exact .inr List.mem_cons_self
  ·rintro (⟨h1,h2⟩|h)
   ·exact ⟨h1,by omega⟩
   ·split at h
    ·rename_i hb
     rw [List.mem_singleton] at h
     rw [h,Int.toNat_natCast]
     exact ⟨⟨by omega,hb⟩,by omega⟩
    ·cases h
theorem set_all{s:BitVec 64}{v:Nat}(h:(s >>> v).toNat=0):(listB s).filter (fun x=>decide (x<(v:Int)))=listB s:=List.filter_eq_self.2 fun x hx=>by
 obtain ⟨h0,h1⟩:=mem_listB.1 hx
 refine decide_eq_true (Int.not_le.1 fun hle=>?_)
 rw [shr_none h x.toNat om] at h1;cases h1
def cntE(s:BitVec 64)(es:List Pt):Int:=((es.filter fun e=>s.getLsbD e.u.toNat&&s.getLsbD e.v.toNat).length:Int)
theorem cntE_take{s:BitVec 64}{es:List Pt}{k:Nat}(h:k<es.length):cntE s (es.take (k+1))=cntE s (es.take k)+(((s >>> (at_ es (k:Int)).u.toNat) &&& (s >>> (at_ es (k:Int)).v.toNat) &&& 1#64).toNat:Int):=by
 have e:((s >>> (at_ es (k:Int)).u.toNat) &&& (s >>> (at_ es (k:Int)).v.toNat) &&& 1#64).toNat=if (s.getLsbD (at_ es (k:Int)).u.toNat&&s.getLsbD (at_ es (k:Int)).v.toNat)=true then 1 else 0:=by
  have h1:=bit_shr (s:=s) (v:=(at_ es (k:Int)).u.toNat)
  have h2:=bit_shr (s:=s) (v:=(at_ es (k:Int)).v.toNat)
  rw [BitVec.toNat_and,show (1#64).toNat=1 from rfl,Nat.and_one_is_mod] at h1 h2 ⊢
  rw [BitVec.toNat_and]
  have h3:∀x y:Nat,(x &&& y) % 2=(x % 2) &&& (y % 2):=fun x y=>by
   rw [←Nat.and_one_is_mod,←Nat.and_one_is_mod,←Nat.and_one_is_mod]
   apply Nat.eq_of_testBit_eq
   intro i
   simp only [Nat.testBit_and]
   cases x.testBit i<;>cases y.testBit i<;>cases (1:Nat).testBit i<;>rfl
  rw [h3,h1,h2]
  cases s.getLsbD (at_ es (k:Int)).u.toNat<;>cases s.getLsbD (at_ es (k:Int)).v.toNat<;>rfl
 unfold cntE
 rw [Da es k h,List.filter_append,List.length_append,e]
 cases hb:(s.getLsbD (at_ es (k:Int)).u.toNat&&s.getLsbD (at_ es (k:Int)).v.toNat)<;>simp [hb]
theorem cntE_bd(s:BitVec 64)(es:List Pt):0≤cntE s es∧cntE s es≤es.length:=by
 unfold cntE
 have:=List.length_filter_le (fun e:Pt=>s.getLsbD e.u.toNat&&s.getLsbD e.v.toNat) es
 omega
theorem bit01(b:BitVec 64):(b &&& 1#64).toNat≤1:=by rw [BitVec.toNat_and,show (1#64).toNat=1 from rfl];exact Nat.and_le_right
theorem mulT{a b:Int}(ha:0≤a∧a≤1000)(hb:0≤b∧b≤1000):0≤a*b∧a*b≤1000000:=by
 have:=Int.mul_le_mul ha.2 hb.2 hb.1 dc
 exact ⟨Int.mul_nonneg ha.1 hb.1,by omega⟩
theorem Size03_ok{κ:Ctx}{I:List Item}{sB:BitVec 64}(hs:sB.toNat<4611686018427387904) :
    CallS Tryz.prog κ 126 [I64 (((sB.toNat:Nat):Int))] I (fun r J=>r=I64 (((listB sB).length:Nat):Int)∧I=J):=by
 refine Ce1 Tryz.func126 rfl rfl ?_
 refine Ah (Ga rfl (Af (Ah (Ga rfl (Af (Av (A5 (Bv (σ:=(BitVec 64)×Int) (fun s=>([(0,I64 (((s.1.toNat:Nat):Int))),(3,I64 (s.2))]:Env)) (fun s=>I) (fun s=>(s.2+(listB s.1).length=(listB sB).length)∧(s.1.toNat≤sB.toNat)∧(0≤s.2)) (fun s=>(listB s.1).length) (sB,0) (show ((0:Int)+(listB (sB:BitVec 64)).length=(listB sB).length)∧((sB:BitVec 64).toNat≤sB.toNat)∧(0≤(0:Int)) from ⟨om,om,om⟩) (Ab Ca (Ab Ca Bp)) (show Fit κ _ (I) from A4) ?_))))))))
 rintro ⟨bq,q⟩ hp
 dsimp only at hp ⊢
 obtain ⟨hq,hb,hq0⟩:=hp
 have hls:=D8 sB
 refine Av (Ah (Gm rfl (Gr (Br rfl rfl) (Af (A6 rfl (fun c5=>?_) (fun c5=>?_))))))
 ·refine Az (Ai (Av (A5 (A2 (Gm rfl (Gr (Rad rfl rfl) (Ga rfl (Be (Al (Ai (A2 (Gm rfl (Gm rfl (Gr (Rsu rfl rfl) (Gr (Runs.andBI (a:=bq) (c:=bq - 1#64) rfl rfl rfl (pred_nat om) om) (Ga rfl (Be ?_)))))))))))))))))
  have hst:=congrArg List.length (listB_step (ne_of_pos (b:=bq) om))
  rw [List.length_cons] at hst
  have hpl:=pred_le (b:=bq)
  exact B0 ((bq &&& (bq - 1#64)),(q+1)) (by dsimp only;exact ⟨om,om,om⟩)
 ·refine Bt (Aq (Aq (A9 (Ai (Ah (Gm rfl (Ga rfl (Af (Ay ?_)))))))))
  have hz:bq=0#64:=BitVec.eq_of_toNat_eq (by show bq.toNat=0;omega)
  rw [hz,Cx] at hq
  exact A0 rfl rfl (I) A1 ⟨congrArg I64 (by simp only [List.length_nil] at hq;omega),rfl⟩
theorem Size03_nat{κ:Ctx}{I:List Item}(m:Nat)(h:m<4611686018427387904):CallS Tryz.prog κ 126 [I64 (m:Int)] I fun r J=>r=I64 (((listB (natB m)).length:Nat):Int)∧I=J:=by
 have:=Size03_ok (κ:=κ) (I:=I) (sB:=natB m) (by rw [natB_nat h];exact h)
 rwa [natB_nat h] at this
theorem Set03_ok{κ:Ctx}{I:List Item}{sB:BitVec 64}(hs:sB.toNat<4611686018427387904) :
    CallS Tryz.prog κ 127 [I64 (((sB.toNat:Nat):Int))] I (fun r J=>∃a c,r = .slice a (listB sB).length c∧J=vc 3 (.slice a (listB sB).length c) (listB sB)::I):=by
 refine Ce1 Tryz.func127 rfl rfl ?_
 refine Ah (Ga rfl (Af (Ah (Ga rfl (Af (Av (Ah (Ga rfl (Af (A5 (Bv (σ:=Nat×(Option Addr)×Nat×(List Int)) (fun s=>([(0,I64 (((sB.toNat:Nat):Int))),(3,.slice s.2.1 s.2.2.2.length s.2.2.1),(4,I64 (((s.1:Nat):Int)))]:Env)) (fun s=>vc 3 (.slice s.2.1 s.2.2.2.length s.2.2.1) (s.2.2.2)::I) (fun s=>(s.1≤62)∧(s.2.2.2=(listB sB).filter fun x=>decide (x<(s.1:Int)))) (fun s=>63 - s.1) (0,none,0,[]) (show ((0:Nat)≤62)∧(([]:List Int)=(listB sB).filter fun x=>decide (x<((0:Nat):Int))) from ⟨om,(by rw [eq_comm,List.filter_eq_nil_iff];intro x hx;have:=listB_rng hx;simp;omega)⟩) (Ab rfl (Ab (Db rfl (by first|rfl|simp)) (Ab Ca Bp))) (show Fit κ _ (vc 3 (.slice (none) ([]).length (0)) (([]))::I) from (Bw _ _)) ?_)))))))))))
 rintro ⟨v,a,c,out⟩ hp
 dsimp only at hp ⊢
 obtain ⟨hv,ho⟩:=hp
 have hol:out.length≤64:=by rw [ho];exact Nat.le_trans (List.length_filter_le _ _) (D8 sB)
 have htn:((v:Int)).toNat=v:=Int.toNat_natCast v
 refine Av (Ah (Gm rfl (Gm rfl (Gr (Cr Bf Cg rfl om) (Gr (Runs.shrBI (a:=sB) rfl rfl rfl om om) (Gr (Br rfl rfl) (Af (A6 rfl (fun c9=>?_) (fun c9=>?_)))))))))
 ·refine Az (Ai (Av (A5 (Ah (Gm rfl (Gm rfl (Gr (Cr Bf Cg rfl om) (Gr (Runs.shrBI (a:=sB) rfl rfl rfl om om) (Gr (Runs.andBI (a:=sB >>> ((v:Int)).toNat) (c:=1#64) rfl rfl rfl rfl (by have:=BitVec.toNat_ushiftRight sB ((v:Int)).toNat;rw [Nat.shiftRight_eq_div_pow] at this;have:=Nat.div_le_self sB.toNat (2 ^ ((v:Int)).toNat);omega)) (Gr (Bi rfl rfl) (Af (Ar (S4 17 0 3 4 rfl rfl rfl rfl) (A6 rfl (fun c17=>?_) (fun c17=>?_))))))))))))))
  ·refine A2 (Gm rfl (Gm rfl (Ge1 (B1 (α:=Int) (cs:=[_]) (xs:=[(v:Int)]) Am ty3 rfl rfl dc dc rfl rfl rfl rfl) fun ad1=>?_)))
   refine Ge2 (B2 (α:=Int) (e:=3) (xs:=out) (ys:=([(v:Int)]:List Int)) Am ty3 rfl rfl rfl mm Bo lcn dc rfl (fun _ _=>am)) fun ad2 cp3=>?_
   refine Ga rfl (Be (Al (Ai (A2 (Gm rfl (Gr (Rad rfl rfl) (Ga rfl (Be ?_))))))))
   have hvb:=shr_bound hs (v:=v) (by rw [htn] at c9;omega)
   have hb1:=bit_shr (s:=sB) (v:=v)
   exact B0 ((v+1),(ad2),(cp3),(out++([(v:Int)]:List Int))) (by dsimp only;exact ⟨om,(by rw [set_step om,←ho];rw [htn] at c17;by_cases hbt:sB.getLsbD v=true;(· first|(rw [if_pos hbt];done)|(rw [if_pos hbt] at hb1;omega));(· first|(rw [if_neg hbt,List.append_nil];done)|(rw [if_neg hbt] at hb1;omega)))⟩)
  ·refine Az (Al (Ai (A2 (Gm rfl (Gr (Rad rfl rfl) (Ga rfl (Be ?_)))))))
   have hvb:=shr_bound hs (v:=v) (by rw [htn] at c9;omega)
   have hb1:=bit_shr (s:=sB) (v:=v)
   exact B0 ((v+1),(a),(c),(out)) (by dsimp only;exact ⟨om,(by rw [set_step om,←ho];rw [htn] at c17;by_cases hbt:sB.getLsbD v=true;(· first|(rw [if_pos hbt];done)|(rw [if_pos hbt] at hb1;omega));(· first|(rw [if_neg hbt,List.append_nil];done)|(rw [if_neg hbt] at hb1;omega)))⟩)
 ·refine Bt (Aq (Aq (A9 (Ai (Ah (Gm rfl (Ga rfl (Af (Ay ?_)))))))))
  have hE:out=listB sB:=by rw [ho];exact set_all (by rw [htn] at c9;omega)
  subst hE
  exact A0 rfl rfl (vc 3 (.slice a (listB sB).length c) (listB sB)::I) A4 ⟨a,c,rfl,rfl⟩
theorem Set03_nat{κ:Ctx}{I:List Item}(m:Nat)(h:m<4611686018427387904):CallS Tryz.prog κ 127 [I64 (m:Int)] I fun r J=>∃a c,r = .slice a (listB (natB m)).length c∧J=vc 3 (.slice a (listB (natB m)).length c) (listB (natB m))::I:=by
 have:=Set03_ok (κ:=κ) (I:=I) (sB:=natB m) (by rw [natB_nat h];exact h)
 rwa [natB_nat h] at this
theorem Count03_ok{κ:Ctx}{I:List Item}{nd:Int}{va:Value}{es:List Pt}{sB:BitVec 64}(hl:Sl κ I va es)(hG:GrOk nd es)(hb:es.length≤1000)(hs:sB.toNat<4611686018427387904) :
    CallS Tryz.prog κ 125 [.agg #[I64 (nd),va],I64 (((sB.toNat:Nat):Int))] I (fun r J=>r=I64 (cntE sB es)∧I=J):=by
 have hrng:=hG.rng
 refine Ce2 Tryz.func125 rfl rfl ?_
 refine Ah (Ge1 (Bb (cs:=[_,_]) rfl rfl rfl) fun b1=>Ga rfl (Af (Ah (Ga rfl (Af (Av (Ah (Gf fld48_1 rfl (Gl ty46 ?_)))))))))
 refine Gr (Bu (α:=Pt) (xs:=es) Bx rfl (Bl hl)) (Gm rfl (Af (A5 (Bv (σ:=Nat×Int) (fun s=>([(1,I64 (((sB.toNat:Nat):Int))),(5,I64 (s.2)),(9,va),(10,I64 (((es.length:Nat):Int))),(11,I64 (((s.1:Nat):Int)))]:Env)) (fun s=>blk b1 [I64 (nd),va] 48::I) (fun s=>(s.1≤es.length)∧(s.2=cntE sB (es.take s.1))) (fun s=>es.length - s.1) (0,0) (show ((0:Nat)≤es.length)∧((0:Int)=cntE sB (es.take (0:Nat))) from ⟨om,rfl⟩) (Ab rfl (Ab Ca (Ab rfl (Ab rfl (Ab Ca Bp))))) (show Fit κ _ (blk b1 [I64 (nd),va] 48::I) from A4) ?_))))
 rintro ⟨k,q⟩ hp
 dsimp only at hp ⊢
 obtain ⟨hk,hq⟩:=hp
 have hqb:=cntE_bd sB (es.take k)
 rw [List.length_take] at hqb
 have hrng:=hG.rng
 have hat:=fun h:k<es.length=>hG.at h
 have h01:=bit01 ((sB >>> ((at_ es (k:Int)).u).toNat) &&& (sB >>> ((at_ es (k:Int)).v).toNat))
 refine Ah (Gr (A8 rfl rfl) (Af (Av (A6 rfl (fun c12=>?_) (fun c12=>?_)))))
 ·refine Az (Ai (Av (A5 (Ah (Gr (Ba (α:=Pt) (xs:=es) Bx ty135 rfl rfl (Bl hl) om om) (Gr (Bs (α:=Pt) (xs:=es) ty135 rfl (Bl hl) om om) (Ge1 (Ax ty135 rfl) fun b2=>Ge0 (Bj ty135) ?_)))))))
  refine Af (A2 (Gm rfl (Gm rfl (Gf fld135_0 rfl (Gl ty3 ?_)))))
  refine Gr (Cr Bf Cg rfl om) (Gr (Runs.shrBI (a:=sB) rfl rfl rfl om om) (Gm rfl (Gf fld135_1 rfl (Gl ty3 ?_))))
  exact Gr (Cr Bf Cg rfl om) (Gr (Runs.shrBI (a:=sB) rfl rfl rfl om om) (Gr (Runs.andBI (a:=(sB >>> ((at_ es (k:Int)).u).toNat)) (c:=(sB >>> ((at_ es (k:Int)).v).toNat)) rfl rfl rfl rfl (by have h1:=BitVec.toNat_ushiftRight sB ((at_ es (k:Int)).u).toNat;rw [Nat.shiftRight_eq_div_pow] at h1;have:=Nat.div_le_self sB.toNat (2 ^ ((at_ es (k:Int)).u).toNat);omega)) (Gr (Runs.andBI (a:=(sB >>> ((at_ es (k:Int)).u).toNat) &&& (sB >>> ((at_ es (k:Int)).v).toNat)) (c:=1#64) rfl rfl rfl rfl (by have h9:((sB >>> ((at_ es (k:Int)).u).toNat) &&& (sB >>> ((at_ es (k:Int)).v).toNat)).toNat≤(sB >>> ((at_ es (k:Int)).u).toNat).toNat:=(by rw [BitVec.toNat_and];exact Nat.and_le_left);have h8:(sB >>> ((at_ es (k:Int)).u).toNat).toNat<9223372036854775808:=(by have h1:=BitVec.toNat_ushiftRight sB ((at_ es (k:Int)).u).toNat;rw [Nat.shiftRight_eq_div_pow] at h1;have:=Nat.div_le_self sB.toNat (2 ^ ((at_ es (k:Int)).u).toNat);omega);omega)) (Gr (Rad rfl rfl) (Ga rfl (Be (Al (Ai (Ar (S5 5 1 9 10 11 rfl rfl rfl rfl rfl) (A2 (Gr (Rad rfl rfl) (Gm rfl (Be (B0 ((k+1),(q+((((sB >>> ((at_ es (k:Int)).u).toNat) &&& (sB >>> ((at_ es (k:Int)).v).toNat) &&& 1#64).toNat:Nat):Int))) (by dsimp only;exact ⟨om,(by rw [cntE_take om,←hq])⟩)))))))))))))))
 ·refine Bt (Aq (Aq (A9 (Ai (Ah (Gm rfl (Ga rfl (Af (Ay ?_)))))))))
  rw [List.take_of_length_le om] at hq
  exact A0 rfl rfl (I) A1 ⟨by rw [hq],rfl⟩
theorem Count03_nat{κ:Ctx}{I:List Item}{nd:Int}{va:Value}{es:List Pt}(hl:Sl κ I va es)(hG:GrOk nd es)(hb:es.length≤1000)(m:Nat)(h:m<4611686018427387904):CallS Tryz.prog κ 125 [.agg #[I64 nd,va],I64 (m:Int)] I fun r J=>r=I64 (cntE (natB m) es)∧I=J:=by
 have:=Count03_ok (κ:=κ) (I:=I) (sB:=natB m) hl hG hb (by rw [natB_nat h];exact h)
 rwa [natB_nat h] at this
theorem edges_sq{nd:Int}{es:List Pt}(hG:GrOk nd es):es.length≤nd.toNat*nd.toNat:=by
 have hs:∀e∈es,e∈(List.range nd.toNat).flatMap fun (v:Nat)=>(List.range nd.toNat).map fun (u:Nat)=>(⟨(u:Int),(v:Int)⟩:Pt):=fun e he=>by
  have h:=hG.edge e he
  have hr:=hG.rng
  refine List.mem_flatMap.2 ⟨e.v.toNat,List.mem_range.2 om,List.mem_map.2 ⟨e.u.toNat,List.mem_range.2 om,?_⟩⟩
  rw [Pt.ext_iff']
  exact ⟨by show ((e.u.toNat:Nat):Int)=e.u;omega,by show ((e.v.toNat:Nat):Int)=e.v;omega⟩
 have hl:=List.Nodup.length_le_of_subset (asc_nodup hG.asc) hs
 rw [flat_len _ nd.toNat (fun v=>by rw [List.length_map,List.length_range])] at hl
 exact hl
theorem edges_7{nd:Int}{es:List Pt}(hG:GrOk nd es)(h7:nd≤7):es.length≤1000:=by
 have h1:=edges_sq hG
 have h2:nd.toNat*nd.toNat≤7*7:=Nat.mul_le_mul om om
 omega
theorem natB_nz{m:Nat}(h:1≤m)(h2:m<4611686018427387904):natB m≠0#64:=fun e=>by
 have:=congrArg BitVec.toNat e
 rw [natB_nat h2] at this;simp at this;omega
theorem natB_bit{m n i:Nat}(h:m<2 ^ n)(hi:(natB m).getLsbD i=true):i<n:=by
 have h64:=BitVec.lt_of_getLsbD hi
 unfold natB at hi
 rw [BitVec.getLsbD_ofNat] at hi
 simp only [h64,decide_true,Bool.true_and] at hi
 exact Nat.lt_of_not_le fun hle=>by
  have:=Nat.testBit_lt_two_pow (Nat.lt_of_lt_of_le h (Nat.pow_le_pow_right dc hle))
  rw [this] at hi;cases hi
theorem natB_sub{nd:Int}{m:Nat}(h0:0≤nd)(h:m<2 ^ nd.toNat):subN nd (natB m):=fun x hx=>by
 obtain ⟨h1,h2⟩:=mem_listB.1 hx
 have:=natB_bit h h2
 omega
theorem sub_natB{nd:Int}{W:BitVec 64}(h0:0≤nd)(h:subN nd W)(hW:W≠0#64):natB W.toNat=W∧1≤W.toNat∧W.toNat<2 ^ nd.toNat:=by
 refine ⟨by unfold natB;simp,Nat.pos_of_ne_zero fun e=>hW (BitVec.eq_of_toNat_eq (by rw [e];rfl)),Nat.lt_pow_two_of_testBit _ fun i hi=>?_⟩
 rw [BitVec.testBit_toNat]
 cases hc:W.getLsbD i with
 |false=>rfl
 |true=>
  have:=h (i:Int) (mem_listB.2 ⟨by omega,by rw [Int.toNat_natCast];exact hc⟩)
  omega
structure BestU (nd:Int) (es:List Pt) (m bs:Nat) (num den:Int):Prop where
 zero:m=1→bs=0∧num=0∧den=1
 real:1<m→(1≤bs∧bs<m)∧num=cntE (natB bs) es∧den=((listB (natB bs)).length:Int)
 max:∀j:Nat,1≤j→j<m→cntE (natB j) es*den<num*((listB (natB j)).length:Int)∨(cntE (natB j) es*den=num*((listB (natB j)).length:Int)∧(listB (natB j)).length≤(listB (natB bs)).length)
theorem BestU.bd{nd num den:Int}{es:List Pt}{m bs:Nat}(h:BestU nd es m bs num den)(h1:1≤m)(h7:nd≤7)(hm:m≤2 ^ nd.toNat):(0≤num∧num≤es.length)∧(1≤den∧den≤64)∧bs<2 ^ nd.toNat:=by
 have hp:2 ^ nd.toNat≤2 ^ 7:=Nat.pow_le_pow_right dc om
 by_cases e:m=1
 ·obtain ⟨rfl,rfl,rfl⟩:=h.zero e
  exact ⟨by omega,by omega,Nat.pow_pos dc⟩
 ·obtain ⟨hb,rfl,rfl⟩:=h.real om
  have h1:=cntE_bd (natB bs) es
  have h2:=D8 (natB bs)
  have h3:=List.length_pos_iff.2 (listB_ne (natB_nz (m:=bs) hb.1 om))
  omega
theorem BestU.take{nd num den:Int}{es:List Pt}{m bs:Nat}(h:BestU nd es m bs num den)(h1:1≤m)(hm:m<4611686018427387904)(hd:1≤den)
  (hc:num*((listB (natB m)).length:Int)<cntE (natB m) es*den∨(cntE (natB m) es*den=num*((listB (natB m)).length:Int)∧(listB (natB bs)).length≤(listB (natB m)).length)):BestU nd es (m+1) m (cntE (natB m) es) ((listB (natB m)).length:Int):=by
 have hs:=List.length_pos_iff.2 (listB_ne (natB_nz (m:=m) h1 hm))
 refine ⟨fun e=>by omega,fun _=>⟨by omega,rfl,rfl⟩,fun j j1 jm=>?_⟩
 by_cases e:j=m
 ·subst e;exact .inr ⟨rfl,Nat.le_refl _⟩
 ·have hj:=h.max j j1 om
  have hsj:(0:Int)≤((listB (natB j)).length:Int):=by omega
  generalize cntE (natB j) es=a at hj ⊢
  generalize hq:((listB (natB j)).length:Int)=q at hj hsj ⊢
  generalize cntE (natB m) es=b at hc ⊢
  generalize hp:((listB (natB m)).length:Int)=p at hc ⊢
  have hp1:1≤p:=by omega
  have key:∀x y:Int,x*p*den=(x*den)*p:=fun x y=>by rw [Int.mul_assoc,Int.mul_comm p den,←Int.mul_assoc]
  have k1:=key a 0
  have k2:b*q*den=(b*den)*q:=by rw [Int.mul_assoc,Int.mul_comm q den,←Int.mul_assoc]
  have k3:(num*q)*p=(num*p)*q:=by rw [Int.mul_assoc,Int.mul_comm q p,←Int.mul_assoc]
  have lt_of:a*p*den<b*q*den→a*p<b*q:=fun hh=>Int.lt_of_mul_lt_mul_right hh om
  have eq_of:a*p*den=b*q*den→a*p=b*q:=fun hh=>Int.eq_of_mul_eq_mul_right om hh
  rcases hj with hj|⟨hj,hjl⟩
  ·have h3:=Int.mul_lt_mul_of_pos_right hj (show (0:Int)<p by omega)
   rcases hc with hc|⟨hc,_⟩
   ·have h4:=Int.mul_le_mul_of_nonneg_right (Int.le_of_lt hc) hsj
    exact .inl (lt_of om)
   ·rw [hc] at k2
    exact .inl (lt_of om)
  ·rw [hj] at k1
   rcases hc with hc|⟨hc,hcl⟩
   ·by_cases hq0:q=0
    ·subst hq0
     exact .inr ⟨eq_of (by rw [k1,k2,k3];simp),by omega⟩
    ·have h4:=Int.mul_lt_mul_of_pos_right hc (show (0:Int)<q by omega)
     exact .inl (lt_of om)
   ·rw [hc] at k2
    exact .inr ⟨eq_of om,by omega⟩
theorem BestU.keep{nd num den:Int}{es:List Pt}{m bs:Nat}(h:BestU nd es m bs num den)(h1:1≤m)(hm:m<4611686018427387904)
  (hc:¬num*((listB (natB m)).length:Int)<cntE (natB m) es*den) (hc2:cntE (natB m) es*den=num*((listB (natB m)).length:Int)→¬((listB (natB bs)).length:Int)≤((listB (natB m)).length:Int)):BestU nd es (m+1) bs num den:=by
 refine ⟨fun e=>by omega,fun _=>?_,fun j j1 jm=>?_⟩
 ·by_cases e:m=1
  ·obtain ⟨rfl,rfl,rfl⟩:=h.zero e
   exfalso
   have hz:listB (natB 0)=[]:=by show listB 0#64=[];exact Cx
   have h0:=cntE_bd (natB m) es
   rw [hz] at hc2
   rw [Int.zero_mul,Int.mul_one] at hc hc2
   exact hc2 om (by simp)
  ·obtain ⟨h2,h3⟩:=h.real om
   exact ⟨by omega,h3⟩
 ·by_cases e:j=m
  ·subst e
   by_cases e2:cntE (natB j) es*den=num*((listB (natB j)).length:Int)
   ·have:=hc2 e2
    exact .inr ⟨e2,by omega⟩
   ·exact .inl om
  ·exact h.max j j1 om
theorem BestU.best{nd num den:Int}{es:List Pt}{bs:Nat}(hG:GrOk nd es)(h7:nd≤7)(h:BestU nd es (2 ^ nd.toNat) bs num den):BestR nd es (mkF num den).num (mkF num den).den (natB bs):=by
 have hr:=hG.rng
 have hp:2 ^ nd.toNat≤2 ^ 7:=Nat.pow_le_pow_right dc om
 refine ⟨fun e=>absurd (checkG_ok.2 hG) e,fun _ h0=>?_,fun _ h0=>?_⟩
 ·subst h0
  obtain ⟨rfl,rfl,rfl⟩:=h.zero rfl
  exact ⟨by decide+kernel,by decide+kernel,rfl⟩
 ·have h2:2≤2 ^ nd.toNat:=by
   have:2 ^ 1≤2 ^ nd.toNat:=Nat.pow_le_pow_right dc om
   omega
  obtain ⟨hb,hn,hd⟩:=h.real om
  have hbd:=h.bd om h7 (Nat.le_refl _)
  have hm:=edges_le hG
  have hmul:=mkF_mul (a:=num) (b:=den) hbd.1.1 om
  have hnn:=mkF_num (a:=num) (b:=den) hbd.1.1 om
  have hdd:=mkF_den (a:=num) (b:=den) om
  have ins:∀W,insE W es=cntE W es:=fun W=>rfl
  have cnt:∀W,cntB W=((listB W).length:Int):=fun W=>rfl
  have hsm:∀W,subN nd W→W≠0#64→cntE W es*den<num*cntB W∨(cntE W es*den=num*cntB W∧cntB W≤cntB (natB bs)):=fun W hW hne=>by
   obtain ⟨e,e1,e2⟩:=sub_natB hr.1 hW hne
   have:=h.max W.toNat e1 e2
   rw [e] at this
   rcases this with h|⟨h,h3⟩
   ·exact .inl h
   ·exact .inr ⟨h,by rw [cnt,cnt];omega⟩
  generalize hF:mkF num den=F at hmul hnn hdd ⊢
  -- from num / den to its lowest terms
  have conv:∀x y:Int,(F.den*x)*den=(x*den)*F.den∧(F.num*y)*den=(num*y)*F.den:=fun x y=>⟨by rw [Int.mul_comm F.den x,Int.mul_assoc,Int.mul_comm F.den den,←Int.mul_assoc],by
   rw [Int.mul_assoc,Int.mul_comm y den,←Int.mul_assoc,←hmul,Int.mul_comm F.den num,Int.mul_assoc,Int.mul_assoc,Int.mul_comm F.den y]⟩
  refine ⟨dens_great (natB_sub hr.1 om) (natB_nz hb.1 om) ?_ (fun W hW hne=>?_) (fun W hW hne he=>?_) om,by omega,by omega,⟨num,den,by omega,by omega,hF.symm▸rfl⟩⟩
  ·rw [ins,cnt,←hn,←hd];exact hmul
  ·obtain ⟨c1,c2⟩:=conv (cntE W es) (cntB W)
   rw [ins]
   refine Int.le_of_mul_le_mul_right (a:=den) ?_ om
   rw [c1,c2]
   exact Int.mul_le_mul_of_nonneg_right (by rcases hsm W hW hne with h|h<;>omega) om
  ·obtain ⟨c1,c2⟩:=conv (cntE W es) (cntB W)
   rw [ins] at he
   rw [he,c2] at c1
   have:=Int.eq_of_mul_eq_mul_right (a:=F.den) om c1
   rcases hsm W hW hne with h|h
   ·omega
   ·exact h.2
set_option maxHeartbeats 1000000 in
theorem Best19_ok{κ:Ctx}{I:List Item}{nd:Int}{va:Value}{es:List Pt}(hl:Sl κ I va es)(hG:GrOk nd es)(h7:nd≤7) :
    CallS Tryz.prog κ 67 [.agg #[I64 (nd),va]] I (fun r J=>∃a c B N D,r = .tuple #[.slice a (listB B).length c,.agg #[I64 N,I64 D],I64 0]∧BestR nd es N D B∧J=vc 3 (.slice a (listB B).length c) (listB B)::I):=by
 have hrng:=hG.rng
 have hb:=edges_7 hG h7
 refine Ce1 Tryz.func67 rfl rfl ?_
 refine Ah (Ge1 (Bb (cs:=[_,_]) rfl rfl rfl) fun b1=>Ga rfl (Ge1 (Ax ty40 rfl) fun b2=>Ga rfl (Af (Av (Ah (Gl2 ty48 ?_))))))
 refine G.e (Aj call30 rfl rfl (Check03G_ok (nd:=nd) (Bl hl))) ?_
 rintro _ _ ⟨_,_,⟨rfl,rfl⟩,rfl,rfl⟩
 refine Ga rfl (Af (Ah (Gm rfl (Gr (Bh rfl rfl) (Af (A6 rfl (fun c15=>?_) (fun c15=>?_)))))))
 ·exact absurd (checkG_ok.2 hG) c15
 ·refine Az (Ai (Ah (Ga rfl (Ga rfl (Ga rfl (Af (Av (Ah (Ga rfl (Af (Ar (S6 9 8 7 6 3 1 rfl rfl rfl rfl rfl rfl) (A5 (Bv (σ:=Nat×Nat×Int×Int) (fun s=>([(1,.pointer (some ⟨b1,0,none⟩)),(3,.pointer (some ⟨b2,0,none⟩)),(6,I64 (((s.2.1:Nat):Int))),(7,I64 (s.2.2.1)),(8,I64 (s.2.2.2)),(9,I64 (((s.1:Nat):Int)))]:Env)) (fun s=>blk b2 [I64 (0),I64 (0)] 40::blk b1 [I64 (nd),va] 48::I) (fun s=>(1≤s.1∧s.1≤2 ^ nd.toNat)∧(BestU nd es s.1 s.2.1 s.2.2.1 s.2.2.2)) (fun s=>2 ^ nd.toNat - s.1) (1,0,0,1) (show (1≤(1:Nat)∧(1:Nat)≤2 ^ nd.toNat)∧(BestU nd es (1:Nat) (0:Nat) (0:Int) (1:Int)) from ⟨⟨Nat.le_refl _,Nat.one_le_two_pow⟩,⟨fun _=>⟨rfl,rfl,rfl⟩,fun h=>absurd h dc,fun j h1 h2=>by omega⟩⟩) (Ab rfl (Ab rfl (Ab Ca (Ab Ca (Ab Ca (Ab Ca Bp)))))) (show Fit κ _ (blk b2 [I64 (0),I64 (0)] 40::blk b1 [I64 (nd),va] 48::I) from A4) ?_)))))))))))))
  rintro ⟨m,bs,num,den⟩ hp
  dsimp only at hp ⊢
  obtain ⟨hm,hD⟩:=hp
  have hp64:2 ^ nd.toNat≤2 ^ 7:=Nat.pow_le_pow_right dc om
  have hDb:=hD.bd hm.1 om hm.2
  refine Av (Ah (Gm rfl (Gf fld48_0 rfl (Gl ty3 ?_))))
  refine Gr (Cr Bf Cg rfl om) (Gr (Runs.shl1 rfl rfl om om) (Gr (A8 rfl rfl) (Af (A6 rfl (fun c23=>?_) (fun c23=>?_)))))
  ·refine Az (Ai (Av (A5 (Ah (Gl2 ty48 ?_)))))
   refine Gm rfl (G.e (Aj call125 rfl rfl (Count03_nat (nd:=nd) (Bl hl) hG om m om)) ?_)
   rintro _ _ ⟨_,_,⟨rfl,rfl⟩,rfl,rfl⟩
   have hcn28:=cntE_bd (natB m) es
   refine Gm rfl (G.e (Aj call126 rfl rfl (Size03_nat m om)) ?_)
   rintro _ _ ⟨_,_,⟨rfl,rfl⟩,rfl,rfl⟩
   have hsz30:=D8 (natB m)
   have hm1:=mulT (a:=cntE (natB m) es) (b:=den) om om
   have hm2:=mulT (a:=num) (b:=(((listB (natB m)).length:Nat):Int)) om om
   refine Ga rfl (Ga rfl (Af (Ar (S8 11 10 1 3 6 7 8 9 rfl rfl rfl rfl rfl rfl rfl rfl) (Ah (Gm rfl (Gm rfl (Gr (D0 rfl rfl (by unfold InR;omega)) (Gm rfl (Gm rfl (Gr (D0 rfl rfl (by unfold InR;omega)) (Gr (Br rfl rfl) (Gm rfl (A7 (d:=38) rfl (fun g38=>?_) (fun g38=>?_))))))))))))))
   ·exact Gpo (Gpo (Gpo (Gpo (Gpo (Gpo (Gpo (Gpo (Gpu (Gpu (Gpu (Gpu (Gpo (Gr (Ao rfl rfl) (Af (Ar (S9 52 11 10 1 3 6 7 8 9 rfl rfl rfl rfl rfl rfl rfl rfl rfl) (B6 rfl (A2 (Gm rfl (Gm rfl (Gm rfl (Ga rfl (Ga rfl (Ga rfl (Be (Al (Ai (Ar (S6 8 7 6 1 3 9 rfl rfl rfl rfl rfl rfl) (A2 (Gm rfl (Gr (Rad rfl rfl) (Ga rfl (Be (B0 ((m+1),(m),(cntE (natB m) es),((((listB (natB m)).length:Nat):Int))) (by dsimp only;exact ⟨om,(hD.take hm.1 om om (by first|exact .inl asm|(refine .inr ⟨by assumption,?_⟩;omega)))⟩))))))))))))))))))))))))))))))))))
   ·refine Gro (Ac rfl) (Gro (Ac rfl) (Gro (D0 rfl rfl (by unfold InR;omega)) (Gro (Ac rfl) (Gro (Ac rfl) (Gro (D0 rfl rfl (by unfold InR;omega)) (Gro (Bi rfl rfl) (Gro (Ac rfl) (A7 (d:=46) rfl (fun g46=>?_) (fun g46=>?_)))))))))
    ·refine Gro (Ac rfl) (Gro (Ac rfl) (Et (Cu rfl rfl rfl) (Aj call126 rfl rfl (Size03_nat bs om)) ?_))
     rintro _ _ ⟨_,_,⟨rfl,rfl⟩,rfl,rfl⟩
     have hsz49:=D8 (natB bs)
     refine Gro (B5 rfl rfl) (Gro (Ao rfl rfl) (Gr (Ak rfl rfl) (Af (Ar (S9 52 11 10 1 3 6 7 8 9 rfl rfl rfl rfl rfl rfl rfl rfl rfl) (A6 rfl (fun c52=>?_) (fun c52=>?_))))))
     ·exact A2 (Gm rfl (Gm rfl (Gm rfl (Ga rfl (Ga rfl (Ga rfl (Be (Al (Ai (Ar (S6 8 7 6 1 3 9 rfl rfl rfl rfl rfl rfl) (A2 (Gm rfl (Gr (Rad rfl rfl) (Ga rfl (Be (B0 ((m+1),(m),(cntE (natB m) es),((((listB (natB m)).length:Nat):Int))) (by dsimp only;exact ⟨om,(hD.take hm.1 om om (by first|exact .inl asm|(refine .inr ⟨by assumption,?_⟩;omega)))⟩)))))))))))))))))
     ·exact Az (Al (Ai (A2 (Gm rfl (Gr (Rad rfl rfl) (Ga rfl (Be (B0 ((m+1),(bs),(num),(den)) (by dsimp only;exact ⟨om,(hD.keep hm.1 om asm (fun h=>by first|assumption|exact absurd h asm))⟩)))))))))
    ·exact Gpo (Gpo (Gpo (Gpo (Gro (Ak rfl rfl) (Gr (Ak rfl rfl) (Af (Ar (S9 52 11 10 1 3 6 7 8 9 rfl rfl rfl rfl rfl rfl rfl rfl rfl) (Cw rfl (Az (Al (Ai (A2 (Gm rfl (Gr (Rad rfl rfl) (Ga rfl (Be (B0 ((m+1),(bs),(num),(den)) (by dsimp only;exact ⟨om,(hD.keep hm.1 om asm (fun h=>by first|assumption|exact absurd h asm))⟩))))))))))))))))))
  ·refine Bt (Aq (Aq (A9 (Ai (Ah (Gm rfl (Gc2 (Aj call127 rfl rfl (Set03_nat bs om)) fun ad3 cp4=>?_)))))))
   refine Gm rfl (Gm rfl (Gc0 (Aj call128 rfl rfl (RatOf_ok num den (by have:=hD.bd hm.1 h7 hm.2;omega) (by have:=hD.bd hm.1 h7 hm.2;omega))) ?_))
   refine Ga rfl (Ge0 (Bj ty40) ?_)
   refine Ga rfl (Af (Ar (S3 4 2 3 rfl rfl rfl) (Ay ?_)))
   have hme:m=2 ^ nd.toNat:=by omega
   subst hme
   exact V.rettct rfl ty40 rfl rfl rfl mm rfl (vc 3 (.slice ad3 (listB (natB bs)).length cp4) (listB (natB bs))::I) (by first|exact Bz|exact A4) ⟨ad3,cp4,natB bs,(mkF num den).num,(mkF num den).den,rfl,hD.best hG h7,rfl⟩
end Go.Sl
/- The links at a time, asked from the events of the window up to it and from what has expired by then. No conditions. -/
namespace Go.Sl
theorem gone_mem{kd wd mo nw:Int}{xs:List Lk}{e:Ev}(he:e∈goneL kd wd mo nw xs):e.kd=2∧e.tm=nw:=by
 unfold goneL at he
 obtain ⟨z,hz,rfl⟩:=List.mem_map.1 he
 exact ⟨rfl,rfl⟩
theorem slide3_asc{nd mo:Int}{es:List Ev}(h:StOk nd es):∀k,k≤es.length→(slideS 3 0 mo (es.take k)).2.Pairwise (fun a b=>a.tm≤b.tm)∧∀e∈(slideS 3 0 mo (es.take k)).2,e.tm≤lastT es k
 |0,_=>⟨List.Pairwise.nil,fun e he=>(by cases he)⟩
 |k+1,hk=>by
  have ih:=slide3_asc (mo:=mo) h k om
  have hto:=h.asc k om
  rw [slideS_succ om,evStep3]
  generalize slideS 3 0 mo (es.take k)=s at ih ⊢
  generalize hee:at_ es (k:Int)=e at hto ⊢
  have hlt:lastT es (k+1)=e.tm:=by rw [lastT_succ,hee]
  rw [hlt]
  have hg:∀y∈goneL 3 0 mo e.tm (stepL s.1 e),y.tm=e.tm:=fun y hy=>(gone_mem hy).2
  have hb:∀y∈s.2++[e],y.tm≤e.tm:=fun y hy=>by
   rcases List.mem_append.1 hy with hy|hy
   ·have:=ih.2 y hy;omega
   ·rw [List.mem_singleton.1 hy];exact Int.le_refl _
  refine ⟨List.pairwise_append.2 ⟨List.pairwise_append.2 ⟨ih.1,List.pairwise_singleton _ _,fun x hx y hy=>?_⟩,?_,fun x hx y hy=>?_⟩,fun y hy=>?_⟩
  ·rw [List.mem_singleton.1 hy];exact hb x (List.mem_append_left _ hx)
  ·refine List.Pairwise.imp_of_mem (R:=fun _ _=>True) (fun hx hy _=>?_) (List.pairwise_of_forall (fun _ _=>trivial))
   rw [hg _ hx,hg _ hy];exact Int.le_refl _
  ·rw [hg y hy];exact hb x hx
  ·rcases List.mem_append.1 hy with hy|hy
   ·exact hb y hy
   ·rw [hg y hy];exact Int.le_refl _
section
variable {nd kd wd mo:Int}{es:List Ev}
theorem StOk.pw(h:StOk nd es):es.Pairwise fun a b=>a.tm≤b.tm:=by
 rw [List.pairwise_iff_getElem]
 intro i j hi hj hij
 have h1:=h.up j om i hij
 have h2:=h.asc j hj
 rw [Eu es i hi] at h1
 rw [Eu es j hj] at h2
 omega
theorem HistOk.asc(h:HistOk nd kd wd mo es):(slideS kd wd mo es).2.Pairwise fun a b=>a.tm≤b.tm:=by
 have he:es.take es.length=es:=List.take_length
 rcases checkW_cases h.win with ⟨rfl,rfl,rfl⟩|⟨rfl,hw,rfl⟩|⟨rfl,rfl,hm⟩
 ·rw [all_same];exact h.st.pw
 ·have:=(BehB.all (mo:=0) h.st hw.1 es.length (Nat.le_refl _)).asc
  rwa [he] at this
 ·have:=(slide3_asc (mo:=mo) h.st es.length (Nat.le_refl _)).1
  rwa [he] at this
end
theorem place_spec(l:List Ev)(x:Ev):∀n,n≤l.length→placeG evC l x n≤n∧(∀i:Nat,placeG evC l x n≤i→i<n→x.tm<(at_ l (i:Int)).tm)∧(0<placeG evC l x n→(at_ l ((placeG evC l x n - 1:Nat):Int)).tm≤x.tm)
 |0,_=>⟨Nat.le_refl _,fun i h1 h2=>by omega,fun h=>absurd h (Nat.lt_irrefl 0)⟩
 |n+1,hn=>by
  unfold placeG
  split
  ·rename_i h
   obtain ⟨h1,h2,h3⟩:=place_spec l x n om
   refine ⟨by omega,fun i hi hlt=>?_,h3⟩
   by_cases e:i=n
   ·subst e;exact evC_neg.1 h
   ·exact h2 i hi om
  ·rename_i h
   refine ⟨Nat.le_refl _,fun i h1 h2=>by omega,fun _=>?_⟩
   have:¬x.tm<(at_ l (n:Int)).tm:=fun hh=>h (evC_neg.2 hh)
   show (at_ l (n:Int)).tm≤x.tm
   omega
theorem insert_asc{l:List Ev}(h:l.Pairwise fun a b=>a.tm≤b.tm)(x:Ev):(insertG evC l x).Pairwise fun a b=>a.tm≤b.tm:=by
 obtain ⟨h1,h2,h3⟩:=place_spec l x l.length (Nat.le_refl _)
 unfold insertG insG
 generalize placeG evC l x l.length=p at h1 h2 h3
 have hg:=List.pairwise_iff_getElem.1 h
 have ha:∀a∈l.take p,a.tm≤x.tm:=fun a ha=>by
  obtain ⟨i,hi,rfl⟩:=List.getElem_of_mem ha
  rw [List.length_take] at hi
  rw [List.getElem_take]
  have h4:=h3 om
  rw [Eu l (p - 1) om] at h4
  by_cases e:i=p - 1
  ·subst e;exact h4
  ·have:=hg i (p - 1) om om om;omega
 have hb:∀b∈l.drop p,x.tm≤b.tm:=fun b hb=>by
  obtain ⟨i,hi,rfl⟩:=List.getElem_of_mem hb
  rw [List.length_drop] at hi
  rw [List.getElem_drop]
  have h4:=h2 (p+i) om om
  rw [Eu l (p+i) om] at h4
  omega
 refine List.pairwise_append.2 ⟨h.sublist (List.take_sublist _ _),List.pairwise_cons.2 ⟨hb,h.sublist (List.drop_sublist _ _)⟩,fun a ha' b hb'=>?_⟩
 rcases List.mem_cons.1 hb' with rfl|hb'
 ·exact ha a ha'
 ·have h5:=ha a ha';have h6:=hb b hb';omega
theorem isortC_acc:∀(xs acc:List Ev),acc.Pairwise (fun a b=>a.tm≤b.tm)→(xs.foldl (insertG evC) acc).Pairwise fun a b=>a.tm≤b.tm
 |[],acc,h=>h
 |x::xs,acc,h=>isortC_acc xs _ (insert_asc h x)
theorem isortC_asc(xs:List Ev):(isortG evC xs).Pairwise fun a b=>a.tm≤b.tm:=isortC_acc xs [] List.Pairwise.nil
section
variable {nd kd wd mo T:Int}{es:List Ev}
theorem HistOk.all_asc(h:HistOk nd kd wd mo es):(allE kd wd mo es).Pairwise fun a b=>a.tm≤b.tm:=by
 unfold allE
 refine List.pairwise_append.2 ⟨h.asc,isortC_asc _,fun x hx y hy=>?_⟩
 have hy:=(Ej _ _).mem_iff.1 hy
 unfold lateL at hy
 obtain ⟨z,hz,rfl⟩:=List.mem_map.1 hy
 obtain ⟨h1,h2⟩:=List.mem_filter.1 hz
 unfold lateP at h2
 have h2:=of_decide_eq_true h2
 show x.tm≤z.tm+wd
 rcases checkW_cases h.win with ⟨e1,_⟩|⟨e1,hw,e3⟩|⟨e1,_⟩
 ·omega
 ·subst e1
  have he:es.take es.length=es:=List.take_length
  have hB:=BehB.all (mo:=mo) h.st hw.1 es.length (Nat.le_refl _)
  rw [he] at hB
  rw [←h.links] at h1
  have h3:=hB.le x hx
  have h4:=hB.inv.al rfl z h1
  omega
 ·omega
end
end Go.Sl
namespace Go.Sl
variable {P:Program}{κ:Ctx}{N:Frm}{L:Env}{I:List Item}
theorem V.retv3{fn:Func}{t u s:Tmp}{T U S b b' b2 E E' E2 by' by2 by3:Nat}{z z' z2:List Value}{v v' v2:Value}{Post:Value→List Item→Prop}(hr:fn.results = #[.cell t T,.cell u U,.cell s S])(hT:tyF P T=some (1,false,by',z))(hU:tyF P U=some (1,false,by2,z'))(hS:tyF P S=some (1,false,by3,z2))
  (hv:look L t=some (.pointer (some ⟨b,0,none⟩))) (hv':look L u=some (.pointer (some ⟨b',0,none⟩))) (hv2:look L s=some (.pointer (some ⟨b2,0,none⟩))) (hb:blk b [v] E∈I) (hb':blk b' [v'] E'∈I) (hb2:blk b2 [v2] E2∈I)
  (J:List Item) (hf:Fit κ I J) (hp:Post (.tuple #[v,v',v2]) J) (h0:N.ds=[]:=by rfl):V κ N (bodyPost P fn (RetR κ Post)) .ret L I:=
 fun a w ha hs=>by
  have hcell:w.cell? ⟨b,0,none⟩=some v:=by rw [cell_blk (w:=w) (hs.ok _ hb).1 0];rfl
  have hcell2:w.cell? ⟨b',0,none⟩=some v':=by rw [cell_blk (w:=w) (hs.ok _ hb').1 0];rfl
  have hcell3:w.cell? ⟨b2,0,none⟩=some v2:=by rw [cell_blk (w:=w) (hs.ok _ hb2).1 0];rfl
  have hload:(loadVar T ⟨b,0,none⟩).run P w = .ok v w:=run_loadVar_one hT hcell
  have hload2:(loadVar U ⟨b',0,none⟩).run P w = .ok v' w:=run_loadVar_one hU hcell2
  have hload3:(loadVar S ⟨b2,0,none⟩).run P w = .ok v2 w:=run_loadVar_one hS hcell3
  refine bodyPost_ret (v:= .tuple #[v,v',v2]) ?_ (ha.defers.trans h0) ⟨_,J,rfl,hp,hf w hs⟩
  simp [results,hr,ha.get t _ hv,ha.get u _ hv',ha.get s _ hv2,asAddr,hload,hload2,hload3]
theorem V.retttc{fn:Func}{t u s:Tmp}{T b E sz by':Nat}{z cs:List Value}{v v':Value}{Post:Value→List Item→Prop}(hr:fn.results = #[.tmp t,.tmp u,.cell s T])(hT:tyF P T=some (sz,true,by',z))(hv:look L t=some v)(hv':look L u=some v')(hs':look L s=some (.pointer (some ⟨b,0,none⟩)))(hb:blk b cs E∈I)(hl:cs.length=sz)
  (J:List Item) (hf:Fit κ I J) (hp:Post (.tuple #[v,v',.agg cs.toArray]) J) (h0:N.ds=[]:=by rfl):V κ N (bodyPost P fn (RetR κ Post)) .ret L I:=
 fun a w ha hs=>by
  have hcell:=fun j=>cell_blk (w:=w) (hs.ok _ hb).1 j
  have hload:(loadVar T ⟨b,0,none⟩).run P w = .ok (.agg cs.toArray) w:=run_loadVar_agg hT hl fun j u hj=>by rw [addr_add,hcell,←hj];simp
  refine bodyPost_ret (v:= .tuple #[v,v',.agg cs.toArray]) ?_ (ha.defers.trans h0) ⟨_,J,rfl,hp,hf w hs⟩
  simp [results,hr,ha.get t _ hv,ha.get u _ hv',ha.get s _ hs',asAddr,hload]
end Go.Sl
namespace Go.Sl
open Go.Proofs
set_option maxRecDepth 4000
section
variable {nd kd wd mo tm:Int}{es:List Ev}{fst own:Bool}{j j1:Nat}
theorem all_le(hH:HistOk nd kd wd mo es){i k:Nat}(h:i≤k)(hk:k<(allE kd wd mo es).length):(at_ (allE kd wd mo es) (i:Int)).tm≤(at_ (allE kd wd mo es) (k:Int)).tm:=by
 by_cases e:i=k
 ·subst e;exact Int.le_refl _
 ·rw [Eu _ i om,Eu _ k hk]
  exact (List.pairwise_iff_getElem.1 hH.all_asc) i k om hk om
theorem mom_bef(hH:HistOk nd kd wd mo es)(hM:MomentX (allE kd wd mo es) fst j tm own j1):∀i:Nat,i<j1→(at_ (allE kd wd mo es) (i:Int)).tm≤tm:=fun i hi=>by
 by_cases h:i<j
 ·cases hf:fst with
  |true=>have:=(hM.first hf).2;omega
  |false=>
   obtain ⟨h1,h2⟩:=hM.next hf
   rw [h2];exact all_le hH om h1
 ·exact Int.le_of_eq (hM.same i om hi)
theorem mom_next(hH:HistOk nd kd wd mo es)(hM:MomentX (allE kd wd mo es) fst j tm own j1)(h:j1<(allE kd wd mo es).length):tm<(at_ (allE kd wd mo es) (j1:Int)).tm:=by
 have hne:=hM.stop h
 have hle:tm≤(at_ (allE kd wd mo es) (j1:Int)).tm:=by
  cases hf:fst with
  |true=>
   rw [(hM.first hf).1]
   exact (hH.allFit _ (Cf (xs:=allE kd wd mo es) (i:=(j1:Int)) om om)).tm.1
  |false=>
   obtain ⟨h1,h2⟩:=hM.next hf
   rw [h2];exact all_le hH (by have:=hM.le.1;omega) h
 omega
theorem mom_graph(hH:HistOk nd kd wd mo es)(hM:MomentX (allE kd wd mo es) fst j tm own j1):edgesK (linksL ((allE kd wd mo es).take j1))=atG kd wd mo es tm:=by
 unfold atG
 rw [atK_stop hM.le.2 (mom_bef hH hM) (mom_next hH hM)]
def FirstYes(kd wd mo:Int)(es:List Ev)(p:Int→Prop)(t:Int):Prop:=(∃e∈allE kd wd mo es,e.tm=t)∧p t∧∀e∈allE kd wd mo es,e.tm<t→¬p e.tm
def FirstP(kd wd mo:Int)(es:List Ev)(p:Int→Prop)(t:Int)(ok:Bool):Prop:=(ok=true∧FirstYes kd wd mo es p t)∨(ok=false∧t=0∧∀e∈allE kd wd mo es,¬p e.tm)
theorem fi_next{p:Int→Prop}(hM:MomentX (allE kd wd mo es) fst j tm own j1)(hq:∀i:Nat,i<j→¬p (at_ (allE kd wd mo es) (i:Int)).tm)(hn:own=true→¬p tm):∀i:Nat,i<j1→¬p (at_ (allE kd wd mo es) (i:Int)).tm:=fun i hi=>by
 by_cases h:i<j
 ·exact hq i h
 ·rw [hM.same i om hi]
  exact hn (by rw [hM.own,decide_eq_true om])
theorem fi_yes{p:Int→Prop}(hH:HistOk nd kd wd mo es)(hM:MomentX (allE kd wd mo es) fst j tm own j1)(hq:∀i:Nat,i<j→¬p (at_ (allE kd wd mo es) (i:Int)).tm)(ho:own=true)(hp:p tm):FirstYes kd wd mo es p tm:=by
 have hj:j<j1:=by have:=hM.own;rw [ho] at this;exact of_decide_eq_true this.symm
 have hl:=hM.le.2
 refine ⟨⟨_,Cf (xs:=allE kd wd mo es) (i:=(j:Int)) om om,hM.same j (Nat.le_refl _) hj⟩,hp,fun e he hlt=>?_⟩
 obtain ⟨i,hi,rfl⟩:=mem_at he
 by_cases h:i<j
 ·exact hq i h
 ·have h1:=all_le hH (i:=j) (k:=i) om hi
  rw [hM.same j (Nat.le_refl _) hj] at h1
  omega
theorem fi_no{p:Int→Prop}(hq:∀i:Nat,i<(allE kd wd mo es).length→¬p (at_ (allE kd wd mo es) (i:Int)).tm):∀e∈allE kd wd mo es,¬p e.tm:=fun e he=>by
 obtain ⟨i,hi,rfl⟩:=mem_at he
 exact hq i hi
end
def reachQ(nd kd wd mo:Int)(es:List Ev)(num den t:Int):Prop:=densQ nd (atG kd wd mo es t) num den
set_option maxHeartbeats 2000000 in
theorem AFirst_ok{κ:Ctx}{I:List Item}{nd kd wd mo num den:Int}{ea:Option Addr}{ec:Nat}{es:List Ev}(hl:Sl κ I (.slice ea es.length ec) es)(hH:HistOk nd kd wd mo es)(hlen:es.length≤19)(hf:FrV ⟨num,den⟩)(hT:TabRd κ I 0 tzCells) :
    CallS Tryz.prog κ 47 [I64 (nd),.slice ea es.length ec,.agg #[I64 (kd),I64 (wd),I64 (mo)],.agg #[I64 (num),I64 (den)]] I (fun r J=>∃tv ok,r = .tuple #[I64 tv,.bool ok,I64 0]∧FirstP kd wd mo es (reachQ nd kd wd mo es num den) tv ok∧I=J):=by
 refine CallS.enterM (L:=[(0,I64 (nd)),(1,.slice ea es.length ec),(2,.agg #[I64 (kd),I64 (wd),I64 (mo)]),(3,.agg #[I64 (num),I64 (den)])]) Tryz.func47 rfl rfl rfl rfl ?_
 refine Ah (Ge1 (Bb (cs:=[_,_,_]) rfl rfl rfl) fun b1=>Ge1 (Bb (cs:=[_,_]) rfl rfl rfl) fun b2=>Ge1 (Ax ty3 rfl) fun b3=>Ge1 (Ax ty4 rfl) fun b4=>Ge1 (Ax ty36 rfl) fun b5=>Af (Av (Ah (Gm rfl (Gm rfl (Gl3 ty31 ?_))))))
 refine Gc0 (Aj call97 rfl rfl (ACheck_ok (nd:=nd) (kd:=kd) (wd:=wd) (mo:=mo) (Bl hl))) ?_
 refine Ga rfl (Af (Ar (S8 11 10 9 8 7 6 0 1 rfl rfl rfl rfl rfl rfl rfl rfl) (Ah (Gm rfl (Gr (Bh rfl rfl) (Af (A6 rfl (fun c21=>?_) (fun c21=>?_))))))))
 ·exact absurd (slideE_zeroH hH) c21
 ·refine Az (Ai (Av (Ah (Gl2 ty40 ?_))))
  refine Gc0 (Aj call89 rfl rfl (RatValid_ok (⟨num,den⟩:Fr) (by first|exact hf|exact hBR.frv hGr))) ?_
  refine Gr (Ck rfl) (Af (Cw rfl (Az (Ai (Av (Ah (Gm rfl (Gm rfl (Gl3 ty31 ?_)))))))))
  refine G.e (Aj call98 rfl rfl Frames_ok) ?_
  rintro _ _ ⟨_,_,⟨qb6,qb7,qb8,rfl,rfl⟩,rfl,rfl⟩
  refine Af (Ar (S5 29 10 9 8 7 rfl rfl rfl rfl rfl) (A5 (W.fit (J:=blk b3 [I64 (0)] 3::blk b4 [.bool false] 4::blk b5 [I64 (0)] 36::blk qb8 [I64 (kd),I64 (wd),I64 (mo)] 31::blk qb7 [.slice ea es.length ec] 28::blk qb6 [I64 (nd)] 3::blk b2 [I64 (num),I64 (den)] 40::blk b1 [I64 (kd),I64 (wd),I64 (mo)] 31::I) Bz ?_)))
  refine W.rangeFnB (gf:=165) (lb:=[.pointer (some ⟨qb6,0,none⟩),.pointer (some ⟨qb7,0,none⟩),.pointer (some ⟨qb8,0,none⟩)]) rfl call165 fun Dm l rc hr1 hr2 hr3 hr4 hta=>?_
  refine (Frames1_ok (I:=blk qb8 [I64 (kd),I64 (wd),I64 (mo)] 31::blk qb7 [.slice ea es.length ec] 28::blk qb6 [I64 (nd)] 3::blk b2 [I64 (num),I64 (den)] 40::blk b1 [I64 (kd),I64 (wd),I64 (mo)] 31::I) (σ:=Unit) (τ:=Int) (l:=l) (Lf:=fun s=>[recI l rc,dfrI Dm,blk b3 [I64 (0)] 3,blk b4 [.bool false] 4,blk b5 [I64 (0)] 36]) (Pf:=fun fst j s=>(∀i:Nat,i<j→¬(reachQ nd kd wd mo es num den) (at_ (allE kd wd mo es) (i:Int)).tm)) (Xf:=fun s=>[recI l {rc with state:= .done,pending:=some .ret},dfrI Dm,blk b3 [I64 (s)] 3,blk b4 [.bool true] 4,blk b5 [I64 (0)] 36]) (Qf:=fun s=>(FirstYes kd wd mo es (reachQ nd kd wd mo es num den) s)) (s0:=()) hH hlen (Dx mm) (Dx mm) (Dx mm) (Bl hl) (fun i h=>absurd h (Nat.not_lt_zero i)) ?_).mono ?_
  ·rintro T hTI fst j tm own j1 ga gc hM _ hp
   have hq:(∀i:Nat,i<j→¬(reachQ nd kd wd mo es num den) (at_ (allE kd wd mo es) (i:Int)).tm):=hp
   have hbq0:BlkRd κ T b2 [I64 (num),I64 (den)] 40:=(Dx (I:=blk qb8 [I64 (kd),I64 (wd),I64 (mo)] 31::blk qb7 [.slice ea es.length ec] 28::blk qb6 [I64 (nd)] 3::blk b2 [I64 (num),I64 (den)] 40::blk b1 [I64 (kd),I64 (wd),I64 (mo)] 31::I) mm).fit hTI
   have hTT:TabRd κ T 0 tzCells:=(Cv (J:=blk qb8 [I64 (kd),I64 (wd),I64 (mo)] 31::blk qb7 [.slice ea es.length ec] 28::blk qb6 [I64 (nd)] 3::blk b2 [I64 (num),I64 (den)] 40::blk b1 [I64 (kd),I64 (wd),I64 (mo)] 31::I) hT A1).fit hTI
   have hmg:=mom_graph hH hM
   have hGr:GrOk nd (edgesK (linksL ((allE kd wd mo es).take j1))):=by rw [hmg];exact hH.graph tm
   refine YieldB.fit (J:=recI l rc::vc 135 (.slice ga (edgesK (linksL ((allE kd wd mo es).take j1))).length gc) (edgesK (linksL ((allE kd wd mo es).take j1)))::dfrI Dm::blk b3 [I64 (0)] 3::blk b4 [.bool false] 4::blk b5 [I64 (0)] 36::T) Bz ?_
   refine YieldB.mkA (L₀:=[(31,.agg #[I64 (nd),.slice ga (edgesK (linksL ((allE kd wd mo es).take j1))).length gc]),(30,.agg #[I64 (tm),.bool (own)]),(29,.func (.func 165) #[] #[.pointer (some ⟨qb6,0,none⟩),.pointer (some ⟨qb7,0,none⟩),.pointer (some ⟨qb8,0,none⟩)]),(10,.pointer (some ⟨b5,0,none⟩)),(9,.pointer (some ⟨b4,0,none⟩)),(8,.pointer (some ⟨b3,0,none⟩)),(7,.pointer (some ⟨b2,0,none⟩))]) (by rw [hr2];rfl) hr3 hr4 (by rw [hr2,fold_two];exact ag_two hta rfl rfl) ?_
   refine WR.seq ?_
   refine D9 (fun _ _ h=>False.elim h) rfl ?_
   refine Ge1 (Ax ty153 rfl) fun b9=>Ge0 (Bj ty153) ?_
   refine Be (V.thenR ?_)
   refine D9 (fun _ _ h=>False.elim h) rfl ?_
   refine Ge1 (Ax ty48 rfl) fun b10=>Ge0 (Bj ty48) ?_
   refine Be (V.begin (blk b10 [I64 (nd),.slice ga (edgesK (linksL ((allE kd wd mo es).take j1))).length gc] 48::blk b9 [I64 (tm),.bool (own)] 153::vc 135 (.slice ga (edgesK (linksL ((allE kd wd mo es).take j1))).length gc) (edgesK (linksL ((allE kd wd mo es).take j1)))::dfrI Dm::blk b3 [I64 (0)] 3::blk b4 [.bool false] 4::blk b5 [I64 (0)] 36::T) Bz hr1 ?_)
   refine WR.block ?_
   refine WR.seq ?_
   refine D9 (fun _ _ h=>False.elim h) rfl ?_
   refine Gl2 ty48 ?_
   refine G.e (Aj call100 rfl rfl (BestD_ok (nd:=nd) Bo (Cv hTT A1))) ?_
   rintro _ _ ⟨_,_,⟨ad11,cp12,Bqq15,ad13,cp14,ptq15,Nqq15,Dqq15,Eqq15,rfl,hBR,rfl⟩,rfl,rfl⟩
   refine Gm rfl (Gr (A3 rfl rfl) (Gr (A3 rfl rfl) (Ge1 (Ax ty102 rfl) fun b16=>Ge0 (Es5_5 ty102) ?_)))
   refine Ga rfl (Be (V.thenR ?_))
   refine WR.sub (L':=[(15,_),(14,_),(12,_),(10,_),(9,_),(8,_),(7,_)]) (Ab rfl (Ab rfl (Ab rfl (Ab rfl (Ab rfl (Ab rfl (Ab rfl Bp))))))) ?_
   refine WR.seq ?_
   refine D9 (fun _ _ h=>False.elim h) rfl ?_
   refine Gf fld153_1 rfl (Gl ty4 ?_)
   refine Gm rfl (Eh (d:=39) rfl (fun g39=>?_) (fun g39=>?_))
   ·refine Gro (Ac rfl) (Gro (Bi rfl rfl) (Gr (Ao rfl rfl) (Gm rfl (A7 (d:=43) rfl (fun g43=>?_) (fun g43=>?_)))))
    ·refine Gro (Aa fld102_1 rfl) (Gro (Bm (vs:=[_,_]) ty40) ?_)
     refine Gro (Runs.loadBs (vs:=[_,_]) ty40 rfl (Cz hbq0 A1) rfl rfl) ?_
     refine Et (Cu rfl rfl rfl) (Aj call101 rfl rfl (RatCmp_ok (⟨Nqq15,Dqq15⟩:Fr) (⟨num,den⟩:Fr) (by first|exact hf|exact hBR.frv hGr) (by first|exact hf|exact hBR.frv hGr))) ?_
     rintro _ _ ⟨_,_,⟨rfl,rfl⟩,rfl,rfl⟩
     refine Gro (B5 rfl rfl) (Gr (Ao rfl rfl) (Be (V.thenR ?_)))
     refine WR.sub (L':=[(49,_),(12,_),(10,_),(9,_),(8,_)]) (Ab rfl (Ab rfl (Ab rfl (Ab rfl (Ab rfl Bp))))) ?_
     refine WR.ite rfl (fun c49=>?_) (fun c49=>?_)
     ·refine WR.seq ?_
      refine D9 (fun _ _ h=>False.elim h) rfl ?_
      refine Gf fld153_0 rfl (Gl ty3 ?_)
      refine Ge0 (Dq (cs:=[_]) (vs:=[_]) (cs':=[_]) ty3) ?_
      refine Ge0 (Dq (cs:=[_]) (vs:=[_]) (cs':=[_]) ty4) ?_
      refine Ge0 (Dq (cs:=[_]) (vs:=[_]) (cs':=[_]) ty36) ?_
      refine Be (V.thenR ?_)
      refine WR.ret ?_
      exact Au (V.roundRet (dfrI Dm::blk b3 [I64 (tm)] 3::blk b4 [.bool true] 4::blk b5 [I64 (0)] 36::T) Bz (.inr ⟨rfl,(tm),(show (FirstYes kd wd mo es (reachQ nd kd wd mo es num den) tm) from (fi_yes hH hM hq g39 (by have h:=(hBR.holds hGr hf).1 c49;rw [hmg] at h;exact h))),rfl⟩))
     ·refine WR.skip ?_
      exact Al (V.roundB (dfrI Dm::blk b3 [I64 (0)] 3::blk b4 [.bool false] 4::blk b5 [I64 (0)] 36::T) Bz hr1 (.inl ⟨rfl,(),(show (∀i:Nat,i<j1→¬(reachQ nd kd wd mo es num den) (at_ (allE kd wd mo es) (i:Int)).tm) from (fi_next hM hq (by first|exact fun h=>absurd (g39.symm.trans h) dc|exact fun _ h=>c49 ((hBR.holds hGr hf).2 (by rw [hmg];exact h))))),rfl⟩))
    ·exact absurd (checkG_ok.2 hGr) g43
   ·refine Gpo (Gpo (Gr (Ak rfl rfl) (Gm rfl (Gpo (Gpo (Gpo (Gpo (Gpo (Gr (Ak rfl rfl) (Be (V.thenR ?_)))))))))))
    refine WR.sub (L':=[(49,_),(12,_),(10,_),(9,_),(8,_)]) (Ab rfl (Ab rfl (Ab rfl (Ab rfl (Ab rfl Bp))))) ?_
    refine WR.no rfl ?_
    refine WR.skip ?_
    exact Al (V.roundB (dfrI Dm::blk b3 [I64 (0)] 3::blk b4 [.bool false] 4::blk b5 [I64 (0)] 36::T) Bz hr1 (.inl ⟨rfl,(),(show (∀i:Nat,i<j1→¬(reachQ nd kd wd mo es num den) (at_ (allE kd wd mo es) (i:Int)).tm) from (fi_next hM hq (by first|exact fun h=>absurd (g39.symm.trans h) dc|exact fun _ h=>c49 ((hBR.holds hGr hf).2 (by rw [hmg];exact h))))),rfl⟩))
  rintro v K ⟨rfl,(⟨_,hp,rfl⟩|⟨tv,hp,rfl⟩)⟩
  ·have hq:(∀i:Nat,i<(allE kd wd mo es).length→¬(reachQ nd kd wd mo es num den) (at_ (allE kd wd mo es) (i:Int)).tm):=hp
   refine .inl ⟨_,rfl,?_⟩
   show V κ _ _ .normal ([(29,.func (.func 165) #[] #[.pointer (some ⟨qb6,0,none⟩),.pointer (some ⟨qb7,0,none⟩),.pointer (some ⟨qb8,0,none⟩)]),(10,.pointer (some ⟨b5,0,none⟩)),(9,.pointer (some ⟨b4,0,none⟩)),(8,.pointer (some ⟨b3,0,none⟩)),(7,.pointer (some ⟨b2,0,none⟩))]:Env) (dfrI Dm::blk b3 [I64 (0)] 3::blk b4 [.bool false] 4::blk b5 [I64 (0)] 36::blk qb8 [I64 (kd),I64 (wd),I64 (mo)] 31::blk qb7 [.slice ea es.length ec] 28::blk qb6 [I64 (nd)] 3::blk b2 [I64 (num),I64 (den)] 40::blk b1 [I64 (kd),I64 (wd),I64 (mo)] 31::I)
   refine Al (Ai (Ah (Ge0 (Dq (cs:=[_]) (vs:=[_]) (cs':=[_]) ty3) ?_)))
   refine Ge0 (Dq (cs:=[_]) (vs:=[_]) (cs':=[_]) ty4) ?_
   refine Ge0 (Dq (cs:=[_]) (vs:=[_]) (cs':=[_]) ty36) ?_
   refine Af (Ay (V.fit (J:=dfrI Dm::blk b3 [I64 (0)] 3::blk b4 [.bool false] 4::blk b5 [I64 (0)] 36::blk qb8 [I64 (kd),I64 (wd),I64 (mo)] 31::blk qb7 [.slice ea es.length ec] 28::blk qb6 [I64 (nd)] 3::blk b2 [I64 (num),I64 (den)] 40::blk b1 [I64 (kd),I64 (wd),I64 (mo)] 31::I) Bz (V.leave ?_)))
   exact V.retv3 rfl ty3 ty4 ty36 rfl rfl rfl mm mm mm (I) A1 ⟨0,false,rfl,.inr ⟨rfl,rfl,fi_no hq⟩,rfl⟩
  ·have hQ:(FirstYes kd wd mo es (reachQ nd kd wd mo es num den) tv):=hp
   refine .inr ⟨_,_,rfl,?_⟩
   show W Tryz.prog κ _ _ _ ([(29,.func (.func 165) #[] #[.pointer (some ⟨qb6,0,none⟩),.pointer (some ⟨qb7,0,none⟩),.pointer (some ⟨qb8,0,none⟩)]),(10,.pointer (some ⟨b5,0,none⟩)),(9,.pointer (some ⟨b4,0,none⟩)),(8,.pointer (some ⟨b3,0,none⟩)),(7,.pointer (some ⟨b2,0,none⟩))]:Env) (dfrI Dm::blk b3 [I64 (tv)] 3::blk b4 [.bool true] 4::blk b5 [I64 (0)] 36::blk qb8 [I64 (kd),I64 (wd),I64 (mo)] 31::blk qb7 [.slice ea es.length ec] 28::blk qb6 [I64 (nd)] 3::blk b2 [I64 (num),I64 (den)] 40::blk b1 [I64 (kd),I64 (wd),I64 (mo)] 31::I)
   refine Ay (Au (Ad (V.fit (J:=dfrI Dm::blk b3 [I64 (tv)] 3::blk b4 [.bool true] 4::blk b5 [I64 (0)] 36::blk qb8 [I64 (kd),I64 (wd),I64 (mo)] 31::blk qb7 [.slice ea es.length ec] 28::blk qb6 [I64 (nd)] 3::blk b2 [I64 (num),I64 (den)] 40::blk b1 [I64 (kd),I64 (wd),I64 (mo)] 31::I) Bz (V.leave ?_))))
   exact V.retv3 rfl ty3 ty4 ty36 rfl rfl rfl mm mm mm (I) A1 ⟨tv,true,rfl,.inl ⟨rfl,hQ⟩,rfl⟩
end Go.Sl
/- The links at a time depend on the events up to it alone. No conditions. -/
namespace Go.Sl
end Go.Sl
namespace Go.Sl
open Go.Proofs
set_option maxRecDepth 4000
section
variable {P:Program}{κ:Ctx}{N:Frm}{L:Env}{J:List Item}{d:Option Tmp}{ty:TypeId}{ps:String}{af:Array Edge}{gd:Option (Nat×Bool)}
theorem Runs.eqC{x y:Operand}{T U:TypeId}{v u:Value}{b:Bool}(hg:∀w:World,(eqGuard .eql T x y v u).run P w = .ok () w)(hT:∀w:World,(binOp .eql T v u).run P w = .ok (.bool b) w)(hx:evalO L x=some v)(hy:evalO L y=some u) :
  Runs P κ N ⟨d,.binOp .eql T x y U,ty,ps,af,gd⟩ L J (.bool b):=fun a w ha _=>by
 simp only [execOp,ha.eval hx,ha.eval hy]
 simp [hg w,hT w]
end
theorem QOf8_ok{κ:Ctx}{I:List Item}  :
    CallS Tryz.prog κ 176 [I64 (8)] I (fun r J=>r = .agg #[.bool false,.bool false,.bool false,.bool false,.bool true]∧I=J):=by
 refine Ce1 Tryz.func176 rfl rfl ?_
 refine Ah (Ge1 (Ax ty220 rfl) fun b1=>Af (Ah (Ge1 (Ax ty220 rfl) fun b2=>Af (Av (Ah (Gm rfl (Af (A5 (Av (A5 (Av (A5 (Av (A5 (Av (A5 (Av (A5 (Av (A5 (Av (A5 (Av (Av (Ah (Gr (Bi rfl rfl) (Ga rfl (Af (A6 rfl (fun c5=>?_) (fun c5=>?_))))))))))))))))))))))))))))))
 ·exact absurd c5 dc
 ·refine Az (Ai (Av (Ah (Gr (Bi rfl rfl) (Ga rfl (Af (A6 rfl (fun c7=>?_) (fun c7=>?_))))))))
  ·exact absurd c7 dc
  ·refine Az (Ai (Av (Ah (Gr (Bi rfl rfl) (Ga rfl (Af (A6 rfl (fun c9=>?_) (fun c9=>?_))))))))
   ·exact absurd c9 dc
   ·refine Az (Ai (Av (Av (Ah (Gr (Bi rfl rfl) (Ga rfl (Af (A6 rfl (fun c11=>?_) (fun c11=>?_)))))))))
    ·exact absurd c11 dc
    ·refine A2 (Gr (Bi rfl rfl) (Ga rfl (Af (Ar (S4 11 4 3 2 rfl rfl rfl rfl) (A6 rfl (fun c11=>?_) (fun c11=>?_))))))
     ·exact absurd c11 dc
     ·refine Az (Ai (Av (Av (Ah (Gr (Bi rfl rfl) (Ga rfl (Af (A6 rfl (fun c14=>?_) (fun c14=>?_)))))))))
      ·exact absurd c14 dc
      ·refine Ah (Gr (Bi rfl rfl) (Ga rfl (Af (A6 rfl (fun c14=>?_) (fun c14=>?_)))))
       ·exact absurd c14 dc
       ·refine A2 (Gr (Bi rfl rfl) (Ga rfl (Af (A6 rfl (fun c14=>?_) (fun c14=>?_)))))
        ·exact absurd c14 dc
        ·refine Az (Ai (Av (Ah (Gr (Bi rfl rfl) (Ga rfl (Af (A6 rfl (fun c18=>?_) (fun c18=>?_))))))))
         ·refine Bt (Aq (Aq (Dk rfl (Aq (Dk rfl (Aq (Dk rfl (Aq (Dk rfl (Aq (Dk rfl (Aq (A9 (Ai (Ah (Gf fld220_4 rfl (Ge0 (Dq (cs:=[_,_,_,_,_]) (vs:=[_]) (cs':=[_,_,_,_,_]) ty4) ?_)))))))))))))))))
          refine Af (Bt (Dk rfl (Aq (A9 (Ai (Ah (Gr (Bm (vs:=[_,_,_,_,_]) ty220) ?_)))))))
          refine Ge0 (Es5_5 ty220) ?_
          exact Af (Ar (S1 2 rfl) (Ay (C6 rfl ty220 rfl mm rfl (I) A1 ⟨rfl,rfl⟩)))
         ·exact absurd rfl c18
theorem QCheck8_ok{κ:Ctx}{I:List Item}{n num den:Int}(hf:FrV ⟨num,den⟩) :
    CallS Tryz.prog κ 105 [.agg #[I64 (8),I64 (0),I64 (0),I64 (0),.slice none 0 0,I64 (num),I64 (den)],I64 (n)] I (fun r J=>r=I64 0∧I=J):=by
 have hn0:0≤num:=hf.n0
 refine Ce2 Tryz.func105 rfl rfl ?_
 refine Ah (Ge1 (Bb (cs:=[_,_,_,_,_,_,_]) rfl rfl rfl) fun b1=>Ga rfl (Af (Ah (Gf fld71_0 rfl (Gl ty3 ?_)))))
 refine G.e (Aj call176 rfl rfl QOf8_ok) ?_
 rintro _ _ ⟨_,_,⟨rfl,rfl⟩,rfl,rfl⟩
 refine Ge1 (Ax ty220 rfl) fun b2=>Ge0 (Es5_5 ty220) ?_
 refine Af (Av (A5 (Ah (Gr (Bm (vs:=[_,_,_,_,_]) ty220) ?_))))
 refine Gr (Bc (cells:=[_,_,_,_,_]) ty220 Tryz.underlying220 pl220 rfl rfl) (Gr (Runs.eqC (fun w=>by kernel_rfl) (fun w=>by kernel_rfl) rfl rfl) (Ga rfl (Af (Cw rfl (Ah (Gf fld220_0 rfl (Gl ty4 ?_)))))))
 refine Gm rfl (Gpo (Gpo (Gpo (Gpo (Gpu (Gpu (Gpu (Gpu (Gpo (Gr (Ak rfl rfl) (Gm rfl (Gro (Aa fld220_1 rfl) (Gro (As ty4) ?_)))))))))))))
 refine Gro (Ac rfl) (Gpo (Gpo (Gpo (Gpo (Gpo (Gpo (Gpo (Gro (Ak rfl rfl) (Gr (Ak rfl rfl) (Ga rfl (Af (Ar (S3 13 5 2 rfl rfl rfl) (Cw rfl (Ah (Gf fld220_3 rfl (Gl ty4 ?_))))))))))))))))
 refine Gm rfl (Gpo (Gpo (Gpo (Gpo (Gpu (Gpu (Gpu (Gpo (Gr (Ak rfl rfl) (Ga rfl (Af (Ar (S3 40 5 2 rfl rfl rfl) (Cw rfl (Ah (Gf fld220_2 rfl (Gl ty4 ?_))))))))))))))))
 refine Gm rfl (Gpo (Gpo (Gpo (Gpo (Gpu (Gpu (Gpu (Gpo (Gr (Ak rfl rfl) (Gm rfl (Gro (Aa fld220_4 rfl) (Gro (As ty4) ?_))))))))))))
 refine Gro (Ac rfl) (Gro (Aa fld71_5 rfl) (Gro (Bm (vs:=[_,_]) ty40) ?_))
 refine Et (Cu rfl rfl rfl) (Aj call89 rfl rfl (RatValid_ok (⟨num,den⟩:Fr) hf)) ?_
 rintro _ _ ⟨_,_,⟨rfl,rfl⟩,rfl,rfl⟩
 refine Gro (Ck rfl) (Gro (Ac rfl) (Gro (Aa fld71_5 rfl) (Gro (Aa fld40_0 rfl) (Gro (As ty3) ?_))))
 refine Gro (A8 rfl rfl) (Gro (Ak rfl rfl) (Gro (Ao rfl rfl) (Gr (Ak rfl rfl) (Ga rfl (Af (Ar (S3 53 5 2 rfl rfl rfl) (A6 rfl (fun c53=>?_) (fun c53=>?_))))))))
 ·refine Ah (Ga rfl (Af (Ay (Au (Ad ?_)))))
  exfalso;first|omega|(exact absurd rfl asm)|(simp_all;done)
 ·refine Ah (Gf fld220_0 rfl (Gl ty4 ?_))
  refine Gr (Ck rfl) (Gm rfl (Gro (Aa fld71_1 rfl) (Gro (As ty3) ?_)))
  refine Gro (Bh rfl rfl) (Gr (Ao rfl rfl) (Gm rfl (A7 (d:=91) rfl (fun g91=>?_) (fun g91=>?_))))
  ·refine Gpo (Gpo (Gpo (Gpo (Gpu (Gpu (Gpu (Gpu (Gpo (Gr (Ao rfl rfl) (Gm rfl (Gpo (Gpo (Gpo (Gpo (Gpu (Gpu (Gpu (Gpo (Gr (Ao rfl rfl) (Gm rfl (Gpo (Gpo (Gpo (Gpo (Gpu (Gpu (Gpu (Gpo (Gr (Ao rfl rfl) (Gm rfl (Gpo (Gpo (Gpo (Gpo (Gpu (Gpu (Gpu (Gpu (Gpo (Gr (Ao rfl rfl) (Ga rfl (Af (Ar (S1 82 rfl) (B6 rfl (Ah (Ga rfl (Af (Ay (Au (Ad ?_))))))))))))))))))))))))))))))))))))))))))))))))))
   exfalso;first|omega|(exact absurd rfl asm)|(simp_all;done)
  ·refine Gro (Aa fld220_1 rfl) (Gro (As ty4) ?_)
   refine Gro (Ck rfl) (Gro (Ac rfl) (Gro (Aa fld71_4 rfl) (Gro (As ty22) ?_)))
   refine Gro (B3 Am rfl) (Gro (Br rfl rfl) (Gro (Ao rfl rfl) (Gr (Ak rfl rfl) (Gm rfl (A7 (d:=102) rfl (fun g102=>?_) (fun g102=>?_))))))
   ·refine Gpo (Gpo (Gpo (Gpo (Gpu (Gpu (Gpu (Gpo (Gr (Ao rfl rfl) (Gm rfl (Gpo (Gpo (Gpo (Gpo (Gpu (Gpu (Gpu (Gpo (Gr (Ao rfl rfl) (Gm rfl (Gpo (Gpo (Gpo (Gpo (Gpu (Gpu (Gpu (Gpu (Gpo (Gr (Ao rfl rfl) (Ga rfl (Af (Ar (S1 82 rfl) (B6 rfl (Ah (Ga rfl (Af (Ay (Au (Ad ?_)))))))))))))))))))))))))))))))))))))))
    exfalso;first|omega|(exact absurd rfl asm)|(simp_all;done)
   ·refine Gro (Aa fld220_3 rfl) (Gro (As ty4) ?_)
    refine Gro (Ck rfl) (Gro (Ac rfl) (Gro (Aa fld71_3 rfl) (Gro (As ty3) ?_)))
    refine Gro (Bh rfl rfl) (Gro (Ao rfl rfl) (Gr (Ak rfl rfl) (Gm rfl (A7 (d:=112) rfl (fun g112=>?_) (fun g112=>?_)))))
    ·refine Gpo (Gpo (Gpo (Gpo (Gpu (Gpu (Gpu (Gpo (Gr (Ao rfl rfl) (Gm rfl (Gpo (Gpo (Gpo (Gpo (Gpu (Gpu (Gpu (Gpu (Gpo (Gr (Ao rfl rfl) (Ga rfl (Af (Ar (S1 82 rfl) (B6 rfl (Ah (Ga rfl (Af (Ay (Au (Ad ?_)))))))))))))))))))))))))))))
     exfalso;first|omega|(exact absurd rfl asm)|(simp_all;done)
    ·refine Gro (Aa fld220_2 rfl) (Gro (As ty4) ?_)
     refine Gro (Ck rfl) (Gro (Ac rfl) (Gro (Aa fld71_2 rfl) (Gro (As ty3) ?_)))
     refine Gro (Bh rfl rfl) (Gro (Ao rfl rfl) (Gr (Ak rfl rfl) (Gm rfl (A7 (d:=122) rfl (fun g122=>?_) (fun g122=>?_)))))
     ·refine Gpo (Gpo (Gpo (Gpo (Gpu (Gpu (Gpu (Gpu (Gpo (Gr (Ao rfl rfl) (Ga rfl (Af (Ar (S1 82 rfl) (B6 rfl (Ah (Ga rfl (Af (Ay (Au (Ad ?_)))))))))))))))))))
      exfalso;first|omega|(exact absurd rfl asm)|(simp_all;done)
     ·refine Gro (Aa fld220_4 rfl) (Gro (As ty4) ?_)
      exact Gro (Ck rfl) (Gro (Ac rfl) (Gpo (Gpo (Gpo (Gpo (Gro (Ak rfl rfl) (Gr (Ak rfl rfl) (Ga rfl (Af (Ar (S1 82 rfl) (Cw rfl (Az (Al (Ai (Ah (Ga rfl (Af (Ay (A0 rfl rfl (I) A1 ⟨rfl,rfl⟩)))))))))))))))))))
theorem PAt_ok{κ:Ctx}{I:List Item}{nd kd wd mo tq:Int}{ea:Option Addr}{ec:Nat}{es:List Ev}(hl:Sl κ I (.slice ea es.length ec) es)(hH:HistOk nd kd wd mo es)(hlen:es.length≤19)(ht:0≤tq∧tq≤1048576) :
    CallS Tryz.prog κ 180 [.agg #[I64 (nd),.slice ea es.length ec,I64 (kd),I64 (wd),I64 (mo)],I64 (tq)] I (fun r J=>∃a c,r = .agg #[I64 nd,.slice a (atG kd wd mo es tq).length c]∧J=vc 135 (.slice a (atG kd wd mo es tq).length c) (atG kd wd mo es tq)::I):=by
 refine Ce2 Tryz.func180 rfl rfl ?_
 refine Ah (Ge1 (Bb (cs:=[_,_,_,_,_]) rfl rfl rfl) fun b1=>Ge1 (Ax ty48 rfl) fun b2=>Af (Ah (Gf fld163_0 rfl (Gl ty3 ?_))))
 refine Gf fld163_1 rfl (Gl ty28 ?_)
 refine Gf fld163_2 rfl (Gl3 ty31 ?_)
 refine Gm rfl (G.e (Aj call44 rfl rfl (At_ok (nd:=nd) (kd:=kd) (wd:=wd) (mo:=mo) (tq:=tq) (Bl hl) hH hlen ht)) ?_)
 rintro _ _ ⟨_,_,⟨ad3,cp4,rfl,rfl⟩,rfl,rfl⟩
 refine Gm rfl (Gr (A3 rfl rfl) (Gr (A3 rfl rfl) (Ge1 (Ax ty48 rfl) fun b5=>Ge0 (Bj ty48) ?_)))
 refine Ga rfl (Af (Ar (S2 5 4 rfl rfl) (Ah (Gl2 ty48 ?_))))
 refine Ge0 (Bj ty48) ?_
 exact Af (Ay (C6 rfl ty48 rfl mm rfl (vc 135 (.slice ad3 (atG kd wd mo es tq).length cp4) (atG kd wd mo es tq)::I) Bz ⟨ad3,cp4,rfl,rfl⟩))
set_option maxHeartbeats 1000000 in
theorem ADense_ok{κ:Ctx}{I:List Item}{nd tv:Int}{ea:Option Addr}{ec:Nat}{es:List Pt}(hl:Sl κ I (.slice ea es.length ec) es)(hT:TabRd κ I 0 tzCells) :
    CallS Tryz.prog κ 186 [.agg #[I64 (nd),.slice ea es.length ec],.agg #[.bool false,I64 (0),I64 (tv),.slice none 0 0,I64 (0),I64 (0),.slice none 0 0,.slice none 0 0,.slice none 0 0,I64 (0),.slice none 0 0]] I (fun r J=>∃a c B a2 c2 parts N D E,r = .agg #[.bool true,I64 0,I64 (tv),.slice a (listB B).length c,I64 N,I64 D,.slice none 0 0,.slice none 0 0,.slice none 0 0,I64 E,.slice a2 (parts:List Int).length c2]∧BestR nd es N D B∧J=vc 3 (.slice a (listB B).length c) (listB B)::vc 3 (.slice a2 parts.length c2) parts::I):=by
 refine Ce2 Tryz.func186 rfl rfl ?_
 refine Ah (Ge1 (Bb (cs:=[_,_]) rfl rfl rfl) fun b1=>Ge1 (Bb (cs:=[_,_,_,_,_,_,_,_,_,_,_]) rfl rfl rfl) fun b2=>Ge1 (Ax ty90 rfl) fun b3=>Af (Ah (Gl2 ty48 ?_)))
 refine G.e (Aj call100 rfl rfl (BestD_ok (nd:=nd) (Bl hl) (Cv hT A1))) ?_
 rintro _ _ ⟨_,_,⟨ad4,cp5,Bqq8,ad6,cp7,ptq8,Nqq8,Dqq8,Eqq8,rfl,hBR,rfl⟩,rfl,rfl⟩
 refine Gm rfl (Gr (A3 rfl rfl) (Gr (A3 rfl rfl) (Ge1 (Ax ty102 rfl) fun b9=>Ge0 (Es5_5 ty102) ?_)))
 refine Ga rfl (Af (Av (Bk mixed (Bq (blk b9 [.slice ad4 (listB Bqq8).length cp5,I64 (Nqq8),I64 (Dqq8),I64 (Eqq8),.slice ad6 ptq8.length cp7] 102::vc 3 (.slice ad4 (listB Bqq8).length cp5) (listB Bqq8)::vc 3 (.slice ad6 ptq8.length cp7) (ptq8)::blk b3 [.bool false,I64 (0),I64 (0),.slice none 0 0,I64 (0),I64 (0),.slice none 0 0,.slice none 0 0,.slice none 0 0,I64 (0),.slice none 0 0] 90::blk b1 [I64 (nd),.slice ea es.length ec] 48::I) 14 (Dr 0 rfl (Aa fld102_0 rfl) (Dr 1 rfl (As ty22) ?_))))))
 refine Dr 2 rfl (Aa fld102_1 rfl) (Dr 3 rfl (Bm (vs:=[_,_]) ty40) ?_)
 refine Dr 4 rfl (Aa fld102_2 rfl) (Dr 5 rfl (Bm (vs:=[_,_]) ty88) ?_)
 refine Dr 6 rfl (Aa fld90_0 rfl) (Ds1 7 (Se0 rfl (Dq (cs:=[_,_,_,_,_,_,_,_,_,_,_]) (vs:=[_]) (cs':=[_,_,_,_,_,_,_,_,_,_,_]) ty4) ?_))
 refine Dr 8 rfl (Aa fld90_3 rfl) (Ds1 9 (Se0 rfl (Dq (cs:=[_,_,_,_,_,_,_,_,_,_,_]) (vs:=[_]) (cs':=[_,_,_,_,_,_,_,_,_,_,_]) ty22) ?_))
 refine Dr 10 rfl (Aa fld90_4 rfl) (Ds1 11 (Se0 rfl (Dq (cs:=[_,_,_,_,_,_,_,_,_,_,_]) (vs:=[_,_]) (cs':=[_,_,_,_,_,_,_,_,_,_,_]) ty40) ?_))
 refine Dr 12 rfl (Aa fld90_8 rfl) (Ds1 13 (Se0 rfl (Dq (cs:=[_,_,_,_,_,_,_,_,_,_,_]) (vs:=[_,_]) (cs':=[_,_,_,_,_,_,_,_,_,_,_]) ty88) ?_))
 refine Dz (Ai (Ar (S2 4 3 rfl rfl) (Ah (Gr (Bm (vs:=[_,_,_,_,_,_,_,_,_,_,_]) ty90) ?_))))
 refine Ge0 (Dq (cs:=[_,_,_,_,_,_,_,_,_,_,_]) (vs:=[_,_,_,_,_,_,_,_,_,_,_]) (cs':=[_,_,_,_,_,_,_,_,_,_,_]) ty90) ?_
 exact Af (Ay (C6 rfl ty90 rfl mm rfl (vc 3 (.slice ad4 (listB Bqq8).length cp5) (listB Bqq8)::vc 3 (.slice ad6 ptq8.length cp7) ptq8::I) Bz ⟨ad4,cp5,Bqq8,ad6,cp7,ptq8,Nqq8,Dqq8,Eqq8,rfl,hBR,rfl⟩))
end Go.Sl
