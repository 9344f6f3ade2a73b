/- A part of the proofs of statements of this seat: contracts of functions, and the plain laws that they lean on. No conditions. -/
import Derived.Test.YtfkcohmipjhfcaaGreatDoorW3
import Derived.Test.YtfkcohmipjhfcaaGreatDoorProg
set_option linter.unusedVariables false
set_option linter.unusedSimpArgs false
set_option linter.unusedSectionVars false
open Go.Proofs.Tryz (prog)
namespace Go.Sl
def TabRd(κ:Ctx)(I:List Item)(g:Nat)(tab:List Value):Prop:=∀w,Sep κ w I->∀j u,tab[j]? = some u->w.cell? ⟨g,j,none⟩=some u
theorem TabRd.fit{κ:Ctx}{I J:List Item}{g:Nat}{tab:List Value}(h:TabRd κ I g tab)(hf:Fit κ J I):TabRd κ J g tab:=λw hs=>h w (hf w hs)
section
variable {P:Program}{κ:Ctx}{N:Frm}{Q:Exit->Act->World->Prop}{L:Env}{I J:List Item}
variable {d:Option Tmp}{ty:TypeId}{ps:String}{af:Array Edge}{gd:Option (Nat×Bool)}
variable {x y:Operand}{T U:TypeId}{a b:BitVec 64}
theorem Runs.negB(hx:er L x=some (U64 a)):Runs P κ N ⟨d,.unOp .neg T x,ty,ps,af,gd⟩ L J (U64 (-a)):=λact w ha _=>by
 have e:IntKind.u64.wrap (-(a.toNat:Int))=((-a).toNat:Int):=by
  have e2:(-a).toNat=(18446744073709551616 - a.toNat) % 18446744073709551616:=BitVec.toNat_neg a
  have h1:a.toNat<18446744073709551616:=a.isLt
  rw [u64_wrap,e2];omega
 simp only [execOp,ha.eval hx]
 simp [go_sem,e]
theorem Runs.mulB(hx:er L x=some (U64 a))(hy:er L y=some (U64 b)):Runs P κ N ⟨d,.binOp .mul T x y U,ty,ps,af,gd⟩ L J (U64 (a*b)):=by
 have h:=Runs.mulw (P:=P) (κ:=κ) (N:=N) (J:=J) (d:=d) (ty:=ty) (ps:=ps) (af:=af) (gd:=gd) (T:=T) (U:=U) hx hy
 have e:IntKind.u64.wrap ((a.toNat:Int)*(b.toNat:Int))=((a*b).toNat:Int):=by 
  have e2:(a*b).toNat=a.toNat*b.toNat % 18446744073709551616:=BitVec.toNat_mul a b
  rw [u64_wrap,e2,←Int.natCast_mul];omega
 rwa [e] at h
theorem Runs.idxArrU{E n g sz by':Nat}{k:IntKind}{ag:Bool}{z:List Value}{i:Nat}(ht:P.underlying T=some (.array n E))(hE:tyF P E=some (sz,ag,by',z))(hx:er L x=some (.pointer (some ⟨g,0,none⟩)))
  (hy:er L y=some (.int k (i:Int))) (hn:i<n):Runs P κ N ⟨d,.indexAddr T x y,ty,ps,af,gd⟩ L J (.pointer (some ⟨g,0+i*sz,none⟩)):=
 λact w ha hs=>by
  simp [execOp,ha.eval hx,ha.eval hy,Instr.indexAt,asIntOf,run_underlying ht,hn,run_sizeOf hE,Instr.sureAddr,addr_add]
theorem Runs.loadTab{sz by' g i:Nat}{z tab:List Value}{v:Value}(hT:tyF P T=some (sz,false,by',z))(hx:er L x=some (.pointer (some ⟨g,0+i*1,none⟩)))(hb:TabRd κ J g tab)(hc:tab[i]? = some v) :
  Runs P κ N ⟨d,.load T x,ty,ps,af,gd⟩ L J v:=λact w ha hs=>by
 simp only [execOp,ha.eval hx]
 simp [Instr.loadAt,Instr.sureAddr,run_loadVar_one hT (hb w hs i v hc)]
end
def tzTab:List Int:=[0,1,56,2,57,49,28,3,61,58,42,50,38,29,17,4,62,47,59,36,45,43,51,22,53,39,33,30,24,18,12,5,63,55,48,27,60,41,37,16,46,35,44,21,52,32,23,11,54,26,40,15,34,20,31,10,25,14,19,9,13,8,7,6]
def tzCells:List Value:=tzTab.map λn=> .int .u8 n
def tzIx(m:BitVec 64):Nat:=(((m &&& (-m))*285870213051353865#64) >>> (58:Int).toNat).toNat
def tzB(m:BitVec 64):Int:=if m=0#64 then 64 else tzTab.getD (tzIx m) 0
theorem tzIx_lt(m:BitVec 64):tzIx m<64:=by
 unfold tzIx
 rw [BitVec.toNat_ushiftRight,Nat.shiftRight_eq_div_pow,show 2 ^ (58:Int).toNat=288230376151711744 by decide]
 have:=((m &&& (-m))*285870213051353865#64).isLt
 omega
theorem tzCells_at(m:BitVec 64):tzCells[tzIx m]? = some (.int .u8 (tzTab.getD (tzIx m) 0)):=by
 unfold tzCells
 have h:tzIx m<tzTab.length:=tzIx_lt m
 rw [List.getElem?_map,List.getElem?_eq_getElem h,List.getD_eq_getElem?_getD,List.getElem?_eq_getElem h,Option.map_some,Option.getD_some]
theorem odd_part:∀n:Nat,0<n->∃k q,n=2 ^ k*(2*q+1)
 |n,h=>by
  by_cases hp:n % 2=1
  ·exact ⟨0,n / 2,by omega⟩
  ·obtain ⟨k,q,e⟩:=odd_part (n / 2) (by omega)
   exact ⟨k+1,q,by rw [Nat.pow_succ,Nat.mul_assoc,Nat.mul_comm 2 (2*q+1),←Nat.mul_assoc,←e];omega⟩
theorem bit_of{k q j:Nat}:(2 ^ k*(2*q+1)).testBit j=(decide (k<=j)&&if j=k then true else q.testBit (j - k - 1)):=by
 rw [Nat.testBit_two_pow_mul]
 by_cases h:k<=j
 ·rw [show decide (k<=j)=true from decide_eq_true h]
  by_cases hj:j=k
  ·subst hj;simp
  ·rw [if_neg hj,show j - k=(j - k - 1)+1 by omega,Nat.testBit_succ,show (2*q+1) / 2=q by omega];simp
 ·rw [show decide (k<=j)=false from decide_eq_false h];simp
theorem bit_pred{k q j:Nat}:(2 ^ k*(2*q+1) - 1).testBit j=if j<k then true else if j=k then false else q.testBit (j - k - 1):=by
 have hk:0<2 ^ k:=Nat.two_pow_pos k
 have e:2 ^ k*(2*q+1) - 1=2 ^ k*(2*q)+(2 ^ k - 1):=by rw [Nat.mul_add];omega
 rw [e,Nat.testBit_two_pow_mul_add _ (by omega)]
 by_cases h:j<k
 ·rw [if_pos h,if_pos h,Nat.testBit_two_pow_sub_one];simpa using h
 ·rw [if_neg h,if_neg h]
  by_cases hj:j=k
  ·rw [if_pos hj,hj];simp
  ·rw [if_neg hj,show j - k=(j - k - 1)+1 by omega,Nat.testBit_succ,show 2*q / 2=q by omega];simp
theorem least_bit{m:BitVec 64}(h:m≠0#64):∃k:Nat,k<64/\m.getLsbD k=true/\(∀j,j<k->m.getLsbD j=false)/\m &&& (-m)=1#64 <<< k/\∀j,(m &&& (m - 1#64)).getLsbD j=(m.getLsbD j&&decide (j≠k)):=by
 have h0:0<m.toNat:=by
  rcases Nat.eq_zero_or_pos m.toNat with h1|h1
  ·exact absurd (BitVec.eq_of_toNat_eq (by rw [h1];rfl)) h
  ·exact h1
 obtain ⟨k,q,e⟩:=odd_part m.toNat h0
 have hlt:=m.isLt
 have hk:k<64:=by
  rcases Nat.lt_or_ge k 64 with hk|hk
  ·exact hk
  ·have h1:2 ^ 64<=2 ^ k:=Nat.pow_le_pow_right (by decide) hk
   have h2:2 ^ k*1<=2 ^ k*(2*q+1):=Nat.mul_le_mul_left _ (by omega)
   omega
 have hm:∀j,m.getLsbD j=(decide (k<=j)&&if j=k then true else q.testBit (j - k - 1)):=λj=>by
  rw [BitVec.getLsbD,e,bit_of]
 have hp:∀j,(m - 1#64).getLsbD j=if j<k then true else if j=k then false else q.testBit (j - k - 1):=λj=>by
  have e1:(m - 1#64).toNat=m.toNat - 1:=by rw [BitVec.toNat_sub];show (2 ^ 64 - 1+m.toNat) % 2 ^ 64=_;omega
  rw [BitVec.getLsbD,e1,e,bit_pred]
 have hn:∀j,j<64->(-m).getLsbD j = !(if j<k then true else if j=k then false else q.testBit (j - k - 1)):=λj hj=>by
  have e1:(-m).toNat=2 ^ 64 - ((m.toNat - 1)+1):=by rw [BitVec.toNat_neg];omega
  rw [BitVec.getLsbD,e1,Nat.testBit_two_pow_sub_succ (by omega),decide_eq_true hj,e,bit_pred];rfl
 refine ⟨k,hk,by rw [hm];simp,λj hj=>by rw [hm,decide_eq_false (by omega)];rfl,?_,λj=>?_⟩
 ·refine BitVec.eq_of_getLsbD_eq λj hj=>?_
  rw [BitVec.getLsbD_and,hm,hn j hj,BitVec.getLsbD_shiftLeft,decide_eq_true hj,BitVec.getLsbD_one]
  by_cases h1:j<k
  ·rw [if_pos h1,decide_eq_false (show ¬k<=j by omega),decide_eq_true h1];rfl
  ·rw [if_neg h1,decide_eq_true (show k<=j by omega),decide_eq_false h1]
   by_cases h2:j=k
   ·rw [if_pos h2,if_pos h2,decide_eq_true (show j - k=0 by omega)];rfl
   ·rw [if_neg h2,if_neg h2,decide_eq_false (show ¬j - k=0 by omega)]
    cases q.testBit (j - k - 1)<;>rfl
 ·rw [BitVec.getLsbD_and,hm,hp]
  by_cases h1:j<k
  ·rw [if_pos h1,decide_eq_false (show ¬k<=j by omega)];rfl
  ·rw [if_neg h1,decide_eq_true (show k<=j by omega)]
   by_cases h2:j=k
   ·rw [if_pos h2,if_pos h2,decide_eq_false (show ¬j≠k from λhc=>hc h2),Bool.and_false]
   ·rw [if_neg h2,if_neg h2,decide_eq_true h2]
    cases q.testBit (j - k - 1)<;>rfl
theorem tz_pow:∀k:Fin 64,tzTab.getD (((1#64 <<< k.val)*285870213051353865#64) >>> (58:Int).toNat).toNat 0=(k.val:Int):=by decide+kernel
theorem tzB_eq{m:BitVec 64}{k:Nat}(h:m≠0#64)(hk:k<64)(he:m &&& (-m)=1#64 <<< k):tzB m=(k:Int):=by
 unfold tzB tzIx
 rw [if_neg h,he]
 exact tz_pow ⟨k,hk⟩
def listN(m:BitVec 64):List Nat:=(List.range 64).filter λi=>m.getLsbD i
def eo(m:BitVec 64):List Int:=(listN m).map fun (i:Nat)=>(i:Int)
theorem listN_asc(m:BitVec 64):(listN m).Pairwise (· < ·):=(List.pairwise_lt_range).sublist List.filter_sublist
theorem mem_listN{m:BitVec 64}{i:Nat}:i∈listN m↔m.getLsbD i=true:=by
 unfold listN
 rw [List.mem_filter,List.mem_range]
 exact ⟨λh=>h.2,λh=>⟨BitVec.lt_of_getLsbD h,h⟩⟩
theorem natLin:LinO (α:=Nat) (· < ·):=⟨Nat.lt_irrefl,λ_ _ _=>Nat.lt_trans,Nat.lt_trichotomy⟩
theorem listN_zero:listN 0#64=[]:=by
 unfold listN
 exact List.filter_eq_nil_iff.2 λi _=>by simp
theorem listN_step{m:BitVec 64}(h:m≠0#64):∃k:Nat,k<64/\tzB m=(k:Int)/\m.getLsbD k=true/\listN m=k::listN (m &&& (m - 1#64)):=by
 obtain ⟨k,hk,hb,hl,he,hc⟩:=least_bit h
 refine ⟨k,hk,tzB_eq h hk he,hb,natLin.uniq (listN_asc m) (List.pairwise_cons.2 ⟨λj hj=>?_,listN_asc _⟩) λj=>?_⟩
 ·rw [mem_listN,hc,Bool.and_eq_true,decide_eq_true_eq] at hj
  rcases Nat.lt_trichotomy j k with h1|h1|h1
  ·rw [hl j h1] at hj;cases hj.1
  ·exact absurd h1 hj.2
  ·exact h1
 ·rw [List.mem_cons,mem_listN,mem_listN,hc,Bool.and_eq_true,decide_eq_true_eq]
  constructor
  ·intro h1
   by_cases h2:j=k
   ·exact .inl h2
   ·exact .inr ⟨h1,h2⟩
  ·rintro (rfl|⟨h1,_⟩)
   ·exact hb
   ·exact h1
theorem listB_zero:eo 0#64=[]:=by unfold eo;rw [listN_zero];rfl
theorem listB_step{m:BitVec 64}(h:m≠0#64):eo m=tzB m::eo (m &&& (m - 1#64)):=by
 obtain ⟨k,hk,ht,_,he⟩:=listN_step h
 unfold eo
 rw [he,ht];rfl
theorem tzB_range{m:BitVec 64}(h:m≠0#64):0<=tzB m/\tzB m<64/\m.getLsbD (tzB m).toNat=true:=by
 obtain ⟨k,hk,ht,hb,_⟩:=listN_step h
 rw [ht];exact ⟨by omega,by omega,by rw [Int.toNat_natCast];exact hb⟩
theorem listN_len(m:BitVec 64):(listN m).length<=64:=by
 unfold listN
 have:=List.length_filter_le (λi=>m.getLsbD i) (List.range 64)
 rwa [List.length_range] at this
theorem listB_len(m:BitVec 64):(eo m).length<=64:=by unfold eo;rw [List.length_map];exact listN_len m
theorem listB_less{m:BitVec 64}(h:m≠0#64):(eo (m &&& (m - 1#64))).length<(eo m).length:=by rw [listB_step h];exact Nat.lt_succ_self _
theorem mem_listB{m:BitVec 64}{x:Int}:x∈eo m↔0<=x/\m.getLsbD x.toNat=true:=by
 unfold eo
 rw [List.mem_map]
 constructor
 ·rintro ⟨i,hi,rfl⟩;exact ⟨by omega,by rw [Int.toNat_natCast];exact mem_listN.1 hi⟩
 ·rintro ⟨h1,h2⟩;exact ⟨x.toNat,mem_listN.2 h2,by omega⟩
theorem listB_asc(m:BitVec 64):(eo m).Pairwise (· < ·):=by
 unfold eo
 rw [List.pairwise_map]
 exact (listN_asc m).imp λh=>by omega
end Go.Sl
namespace Go.Sl
open Go.RowKit (Below)
section
variable {P:Program}{κ:Ctx}{N:Frm}{Q:Exit->Act->World->Prop}{L:Env}{I J:List Item}{ops:Array Oper}{rest:List Oper}
variable {d:Option Tmp}{ty:TypeId}{ps:String}{af:Array Edge}{gd:Option (Nat×Bool)}
variable {α:Type}[Enc α]{xs ys R:List α}
def Cmps(P:Program)(κ:Ctx)(I:List Item)(g:FuncId)(caps:List Value)(cf:α->α->Int):Prop:=callable P g=true/\∀(x y:α) (J:List Item),Fit κ J I->eu P κ g ([]++[.agg (Enc.enc x).toArray,.agg (Enc.enc y).toArray]++caps) J λr J'=>r=e7 (cf x y)/\J=J'
structure BFound [Inhabited α] (cf:α->α->Int) (xs:List α) (x:α) (i:Nat) (b:Bool):Prop where
 le:i<=xs.length
 low:0<i->cf (e_ xs ((i:Int) - 1)) x<0
 high:i<xs.length->¬cf (e_ xs i) x<0
 is:b=decide (i<xs.length/\cf (e_ xs i) x=0)
end
end Go.Sl
namespace Go.Sl
section
variable {l:List Pt}{n:Nat}
theorem asc_at{i j:Nat}(h:AscP l)(hij:i<j)(hj:j<l.length):Pt.lt (e_ l i) (e_ l j):=(pairwise_at l).1 h i j hij hj
end
end Go.Sl
namespace Go.Sl
end Go.Sl
namespace Go.Sl
def cmpI(a b:Int):Int:=if a<b then -1 else if b<a then 1 else 0
def orL:List Int->Int
 |[]=>0
 |x::xs=>if x≠0 then x else orL xs
theorem orL_stop{xs:List Int}{k:Nat}(hk:k<xs.length)(h:e_ xs k≠0):orL (xs.drop k)=e_ xs k:=by
 rw [drop_at xs k hk];simp only [orL];rw [if_pos h]
theorem orL_step{xs:List Int}{k:Nat}(hk:k<xs.length)(h:e_ xs k=0):orL (xs.drop k)=orL (xs.drop (k+1)):=by
 rw [drop_at xs k hk];simp only [orL];rw [if_neg (by simp [h])]
theorem orL_end{xs:List Int}{k:Nat}(hk:xs.length<=k):orL (xs.drop k)=0:=by rw [List.drop_eq_nil_of_le hk];rfl
theorem orL_cmp(a b:Pt):orL [cmpI a.u b.u,cmpI a.v b.v]=Pt.cmp a b:=by
 simp only [orL,cmpI,Pt.cmp]
 split<;>(try split at *)<;>(try split at *)<;>(try split at *)<;>(try split at *)<;>(try split at *)<;>omega
end Go.Sl
namespace Go.Sl
structure GrOk (nodes:Int) (es:List Pt):Prop where
 rng:0<=nodes/\nodes<=64
 asc:AscP es
 edge:∀e∈es,0<=e.u/\e.u<e.v/\e.v<nodes
def badE(nodes:Int)(e:Pt):Int:=if e.u<0\/e.v<=e.u\/nodes<=e.v then 6 else 0
def checkG(nodes:Int)(es:List Pt):Int:=if nodes<0\/64<nodes then 1 else scanL (badE nodes) Pt.lt none es
theorem badE_zero{nodes:Int}{e:Pt}:badE nodes e=0↔0<=e.u/\e.u<e.v/\e.v<nodes:=by
 unfold badE;split<;>omega
theorem checkG_ok{nodes:Int}{es:List Pt}:checkG nodes es=0↔GrOk nodes es:=by
 unfold checkG
 split
 ·rename_i h
  exact ⟨λe=>by omega,λe=>by have:=e.rng;omega⟩
 ·rename_i h
  rw [scanL_zero Pt.lin]
  constructor
  ·rintro ⟨h1,h2⟩;exact ⟨by omega,h2,λe he=>badE_zero.1 (h1 e he)⟩
  ·intro h1;exact ⟨λe he=>badE_zero.2 (h1.edge e he),h1.asc⟩
variable {nodes:Int}{es:List Pt}
theorem GrOk.at(h:GrOk nodes es){k:Nat}(hk:k<es.length):0<=(e_ es k).u/\(e_ es k).u<(e_ es k).v/\(e_ es k).v<nodes:=h.edge _ (at_mem (by omega) (by omega))
theorem flt_yes{l:List Pt}{P:Pt->Bool}{k:Nat}(hk:k<l.length)(h:P (e_ l k)=true):(l.take (k+1)).filter P=(l.take k).filter P++[e_ l k]:=by
 rw [take_at l k hk,List.filter_append];simp [h]
theorem flt_no{l:List Pt}{P:Pt->Bool}{k:Nat}(hk:k<l.length)(h:P (e_ l k)=false):(l.take (k+1)).filter P=(l.take k).filter P:=by
 rw [take_at l k hk,List.filter_append];simp [h]
theorem asc_nodup{l:List Pt}(h:AscP l):l.Nodup:=h.imp fun {a b} h e=>Pt.lin.ne h e
end Go.Sl
namespace Go.Sl
def edgeP(u v:Int):Pt:=⟨if v<u then v else u,if u<v then v else u⟩
theorem Pt.cmp_zero(a b:Pt):Pt.cmp a b=0↔a=b:=by
 rw [Pt.ext_iff']
 unfold Pt.cmp
 split<;>(try split)<;>(try split)<;>(try split)<;>omega
section
variable {es:List Pt}{e:Pt}{i:Nat}{q:Bool}
theorem BFound.below(h:BFound Pt.cmp es e i q)(ha:AscP es):∀j,j<i->Pt.lt (e_ es j) e:=λj hj=>by
 have h1:=(Pt.cmp_lt _ _).1 (h.low (by omega))
 rw [show (i:Int) - 1=((i - 1:Nat):Int) by omega] at h1
 by_cases hq:j=i - 1
 ·rw [hq];exact h1
 ·exact Pt.lin.tr _ _ _ (asc_at ha (i:=j) (j:=i - 1) (by omega) (by have:=h.le;omega)) h1
theorem BFound.mem(h:BFound Pt.cmp es e i q)(ha:AscP es):(i<es.length/\e_ es i=e)↔e∈es:=by
 constructor
 ·rintro ⟨h1,h2⟩;rw [←h2];exact at_mem (by omega) (by omega)
 ·intro hm
  obtain ⟨j,hj,he⟩:=mem_at hm
  have h1:¬j<i:=λhlt=>by have:=h.below ha j hlt;rw [he] at this;exact Pt.lin.irr _ this
  have h2:i<es.length:=by omega
  refine ⟨h2,?_⟩
  by_cases hq:j=i
  ·rw [←hq];exact he
  ·have h3:=h.high h2
   rw [Pt.cmp_lt] at h3
   have h4:=asc_at ha (i:=i) (j:=j) (by omega) hj
   rw [he] at h4
   exact absurd h4 h3
end
end Go.Sl
namespace Go.Sl
set_option maxRecDepth 10000
instance:Enc (BitVec 64):=⟨λb=>[U64 b],1,by omega,λ_=>rfl,λ_ u h=>by simp at h;subst h;rfl⟩
def addRow(rows:List (BitVec 64))(e:Pt):List (BitVec 64):=
 if 0<=e.u/\e.u<e.v/\e.v<rows.length then
  (rows.set e.u.toNat (e_ rows e.u ||| 1#64 <<< e.v.toNat)).set e.v.toNat (e_ (rows.set e.u.toNat (e_ rows e.u ||| 1#64 <<< e.v.toNat)) e.v ||| 1#64 <<< e.u.toNat)
 else rows
def rows0(nd:Int):List (BitVec 64):=List.replicate (min (max nd 0) 64).toNat 0#64
def ek(nd:Int)(es:List Pt):List (BitVec 64):=es.foldl addRow (rows0 nd)
theorem addRow_len(rows:List (BitVec 64))(e:Pt):(addRow rows e).length=rows.length:=by
 unfold addRow;split<;>simp
theorem rowsB_take{nd:Int}{es:List Pt}{k:Nat}(h:k<es.length):ek nd (es.take (k+1))=addRow (ek nd (es.take k)) (e_ es k):=by
 unfold ek;rw [take_at es k h,List.foldl_append];rfl
theorem rowsB_len(nd:Int)(es:List Pt):(ek nd es).length=(min (max nd 0) 64).toNat:=by
 unfold ek
 have:∀(es:List Pt) (r:List (BitVec 64)),(es.foldl addRow r).length=r.length:=λes=>by
  induction es with
  |nil=>intro r;rfl
  |cons e es ih=>intro r;rw [List.foldl_cons,ih,addRow_len]
 rw [this];simp [rows0]
theorem at_rep64(n:Nat)(i:Int):e_ (List.replicate n (0#64)) i=0#64:=by
 unfold e_
 rw [List.getD_eq_getElem?_getD,List.getElem?_replicate]
 split<;>rfl
structure RowsOk (nd:Int) (es:List Pt) (rows:List (BitVec 64)):Prop where
 len:(rows.length:Int)=nd
 bit:∀v w:Int,0<=v->v<nd->0<=w->w<64->((e_ rows v).getLsbD w.toNat=decide ((⟨v,w⟩:Pt)∈es\/(⟨w,v⟩:Pt)∈es))
theorem RowsOk.start{nd:Int}(h:0<=nd/\nd<=64):RowsOk nd [] (rows0 nd):=
 ⟨by unfold rows0;simp;omega,λv w _ _ _ _=>by unfold rows0;rw [at_rep64];simp⟩
theorem addRow_at{rows:List (BitVec 64)}{e:Pt}(h:0<=e.u/\e.u<e.v/\e.v<rows.length)(j:Int)(h0:0<=j)(h1:j<rows.length) :
  e_ (addRow rows e) j=if e.v=j then e_ rows e.v ||| 1#64 <<< e.u.toNat else if e.u=j then e_ rows e.u ||| 1#64 <<< e.v.toNat else e_ rows j:=by
 unfold addRow
 rw [if_pos h,at_set _ e.v j _ (by omega) h0 (by rw [List.length_set];omega)]
 by_cases hv:e.v=j
 ·rw [if_pos hv,if_pos hv,at_set _ e.u e.v _ (by omega) (by omega) (by omega),if_neg (by omega)]
 ·rw [if_neg hv,if_neg hv,at_set _ e.u j _ (by omega) h0 (by omega)]
theorem getLsb_shl(a i:Nat)(hi:i<64):(1#64 <<< a).getLsbD i=decide (a=i):=by
 show (BitVec.twoPow 64 a).getLsbD i=_
 rw [BitVec.getLsbD_twoPow]
 by_cases h:a=i
 ·subst h;simp [hi]
 ·simp [h]
theorem RowsOk.push{nd:Int}{es:List Pt}{rows:List (BitVec 64)}{e:Pt}(h:RowsOk nd es rows)(he:0<=e.u/\e.u<e.v/\e.v<nd)(hn:nd<=64):RowsOk nd (es++[e]) (addRow rows e):=by
 have hl:=h.len
 refine ⟨by rw [addRow_len];exact hl,λv w v0 v1 w0 w1=>?_⟩
 rw [addRow_at (by omega) v v0 (by omega)]
 have hb:=h.bit v w v0 v1 w0 w1
 have hext:∀a b:Int,((⟨a,b⟩:Pt)=e)↔(a=e.u/\b=e.v):=λa b=>by rw [Pt.ext_iff']
 simp only [List.mem_append,List.mem_singleton,hext]
 by_cases hv:e.v=v
 ·rw [if_pos hv,BitVec.getLsbD_or,getLsb_shl _ _ (by omega),hv,hb]
  have e1:(e.u.toNat=w.toNat)↔(w=e.u/\v=e.v):=by omega
  have e2:¬(v=e.u/\w=e.v):=by omega
  rw [decide_eq_decide.2 e1]
  rw [←Bool.decide_or,decide_eq_decide]
  constructor
  ·rintro ((a|b)|c)
   ·exact .inl (.inl a)
   ·exact .inr (.inl b)
   ·exact .inr (.inr ⟨c.1,rfl⟩)
  ·rintro ((a|c)|(b|c))
   ·exact .inl (.inl a)
   ·exact absurd c (λc=>by omega)
   ·exact .inl (.inr b)
   ·exact .inr ⟨c.1,hv.symm⟩
 ·rw [if_neg hv]
  by_cases hu:e.u=v
  ·rw [if_pos hu,BitVec.getLsbD_or,getLsb_shl _ _ (by omega),hu,hb]
   have e1:(e.v.toNat=w.toNat)↔(v=e.u/\w=e.v):=by omega
   have e2:¬(w=e.u/\v=e.v):=by omega
   rw [decide_eq_decide.2 e1]
   rw [←Bool.decide_or,decide_eq_decide]
   constructor
   ·rintro ((a|b)|c)
    ·exact .inl (.inl a)
    ·exact .inr (.inl b)
    ·exact .inl (.inr ⟨rfl,c.2⟩)
   ·rintro ((a|c)|(b|c))
    ·exact .inl (.inl a)
    ·exact .inr ⟨hu.symm,c.2⟩
    ·exact .inl (.inr b)
    ·exact absurd c (λc=>by omega)
  ·rw [if_neg hu,hb]
   have e1:¬(v=e.u/\w=e.v):=by omega
   have e2:¬(w=e.u/\v=e.v):=by omega
   simp [e1,e2]
theorem rowsB_ok{nd:Int}{es:List Pt}(h:GrOk nd es):∀k,k<=es.length->RowsOk nd (es.take k) (ek nd (es.take k))
 |0,_=>by simpa [ek] using RowsOk.start h.rng
 |k+1,hk=>by
  rw [rowsB_take (by omega),take_at es k (by omega)]
  exact (rowsB_ok h k (by omega)).push (h.at (by omega)) h.rng.2
theorem GrOk.rows{nd:Int}{es:List Pt}(h:GrOk nd es):RowsOk nd es (ek nd es):=by
 have:=rowsB_ok h es.length (Nat.le_refl _)
 rwa [List.take_length] at this
end Go.Sl
namespace Go.Sl
theorem mem_andB{a b:BitVec 64}{u:Int}:u∈eo (a &&& b)↔u∈eo a/\u∈eo b:=by
 simp only [mem_listB,BitVec.getLsbD_and,Bool.and_eq_true]
 constructor
 ·rintro ⟨h1,h2,h3⟩;exact ⟨⟨h1,h2⟩,h1,h3⟩
 ·rintro ⟨⟨h1,h2⟩,_,h3⟩;exact ⟨h1,h2,h3⟩
theorem listB_lt{m:BitVec 64}{u:Int}(h:u∈eo m):0<=u/\u<64:=by
 rw [mem_listB] at h
 refine ⟨h.1,Classical.byContradiction λhn=>?_⟩
 rw [BitVec.getLsbD_of_ge _ _ (by omega)] at h
 exact absurd h.2 (by simp)
theorem mem_orbit{m:BitVec 64}{u k:Int}(h0:0<=k)(h1:k<64):u∈eo (m ||| 1#64 <<< k.toNat)↔u∈eo m\/u=k:=by
 constructor
 ·intro h
  have hu:=listB_lt h
  rw [mem_listB,BitVec.getLsbD_or,getLsb_shl _ _ (by omega),Bool.or_eq_true,decide_eq_true_eq] at h
  rw [mem_listB]
  rcases h.2 with h2|h2
  ·exact .inl ⟨h.1,h2⟩
  ·exact .inr (by omega)
 ·intro h
  have hu:0<=u/\u<64:=h.elim listB_lt λh=>by omega
  rw [mem_listB,BitVec.getLsbD_or,getLsb_shl _ _ (by omega),Bool.or_eq_true,decide_eq_true_eq]
  rw [mem_listB] at h
  exact ⟨hu.1,h.elim (λh=> .inl h.2) λh=> .inr (by omega)⟩
theorem mem_minus{m:BitVec 64}{u k:Int}(h0:0<=k):u∈eo (m &&& ~~~(1#64 <<< k.toNat))↔u∈eo m/\u≠k:=by
 constructor
 ·intro h
  have hu:=listB_lt h
  rw [mem_listB,BitVec.getLsbD_and,BitVec.getLsbD_not,getLsb_shl _ _ (by omega),Bool.and_eq_true] at h
  rw [mem_listB]
  refine ⟨⟨h.1,h.2.1⟩,λe=>?_⟩
  have h3:=h.2.2
  rw [e] at h3
  simp at h3
 ·rintro ⟨h,hne⟩
  have hu:=listB_lt h
  rw [mem_listB] at h
  rw [mem_listB,BitVec.getLsbD_and,BitVec.getLsbD_not,getLsb_shl _ _ (by omega),Bool.and_eq_true]
  refine ⟨h.1,h.2,?_⟩
  rw [decide_eq_false (show ¬k.toNat=u.toNat by omega)]
  simp;omega
theorem listB_nodup(m:BitVec 64):(eo m).Nodup:=(listB_asc m).imp λh=>by omega
theorem listB_perm{m:BitVec 64}{k:Int}(h:k∈eo m):(eo m).Perm (k::eo (m &&& ~~~(1#64 <<< k.toNat))):=by
 have h0:=(listB_lt h).1
 refine (List.perm_ext_iff_of_nodup (listB_nodup _) (List.nodup_cons.2 ⟨λe=>((mem_minus h0).1 e).2 rfl,listB_nodup _⟩)).2 λu=>?_
 rw [List.mem_cons,mem_minus h0]
 by_cases e:u=k
 ·subst e;simp [h]
 ·simp [e]
theorem listB_minus{m:BitVec 64}{k:Int}(h:k∈eo m):(eo m).length=(eo (m &&& ~~~(1#64 <<< k.toNat))).length+1:=(listB_perm h).length_eq
theorem minus_same{m:BitVec 64}{k:Int}(h0:0<=k)(h:k∉eo m):(eo (m &&& ~~~(1#64 <<< k.toNat))).length=(eo m).length:=by
 refine ((List.perm_ext_iff_of_nodup (listB_nodup _) (listB_nodup _)).2 λu=>?_).length_eq
 rw [mem_minus h0]
 exact ⟨λh=>h.1,λhu=>⟨hu,λe=>h (e▸hu)⟩⟩
theorem nz_listB{m:BitVec 64}:m≠0#64↔∃u,u∈eo m:=by
 constructor
 ·intro h;exact ⟨_,by rw [listB_step h];exact List.mem_cons_self⟩
 ·rintro ⟨u,hu⟩ rfl
  rw [listB_zero] at hu;cases hu
theorem tzB_le{m:BitVec 64}(h:m≠0#64):tzB m∈eo m/\∀u∈eo m,tzB m<=u:=by
 have e:=listB_step h
 refine ⟨by rw [e];exact List.mem_cons_self,λu hu=>?_⟩
 have ha:=listB_asc m
 rw [e] at ha hu
 rcases List.mem_cons.1 hu with rfl|hu
 ·exact Int.le_refl _
 ·have:=(List.pairwise_cons.1 ha).1 u hu;omega
def degB(rows:List (BitVec 64))(left:BitVec 64)(v:Int):Nat:=(eo (e_ rows v &&& left)).length
structure Takes (rows:List (BitVec 64)) (left:BitVec 64) (v:Int):Prop where
 mem:v∈eo left
 le:∀u∈eo left,degB rows left v<degB rows left u\/(degB rows left v=degB rows left u/\v<=u)
theorem Takes.uniq{rows:List (BitVec 64)}{left:BitVec 64}{v v':Int}(h:Takes rows left v)(h':Takes rows left v'):v=v':=by
 have a:=h.le v' h'.mem
 have b:=h'.le v h.mem
 omega
theorem fold_least(f:Int->Nat):∀(l:List Int) (b:Int),(∀u∈l,b<=u)->l.Pairwise (· < ·)->
    ((l.foldl (λb v=>if f v<f b then v else b) b=b\/l.foldl (λb v=>if f v<f b then v else b) b∈l)/\
     (f (l.foldl (λb v=>if f v<f b then v else b) b)<f b\/l.foldl (λb v=>if f v<f b then v else b) b=b)/\
     ∀u∈l,f (l.foldl (λb v=>if f v<f b then v else b) b)<f u\/(f (l.foldl (λb v=>if f v<f b then v else b) b)=f u/\l.foldl (λb v=>if f v<f b then v else b) b<=u))
  |[],b,_,_=>⟨.inl rfl,.inr rfl,λu hu=>by cases hu⟩
  |x::xs,b,hb,hp=>by
    obtain ⟨hx,hp'⟩:=List.pairwise_cons.1 hp
    have hbx:=hb x List.mem_cons_self
    rw [List.foldl_cons]
    by_cases hc:f x<f b
    · rw [if_pos hc]
      obtain ⟨h1,h2,h3⟩:=fold_least f xs x (λu hu=>by have:=hx u hu;omega) hp'
      generalize xs.foldl (λb v=>if f v<f b then v else b) x=r at h1 h2 h3
      refine ⟨.inr (h1.elim (λe=>e▸List.mem_cons_self) λh=>List.mem_cons_of_mem _ h),.inl (h2.elim (λh=>by omega) λh=>by rw [h];exact hc),λu hu=>?_⟩
      rcases List.mem_cons.1 hu with rfl|hu
      · exact h2.elim .inl λh=> .inr ⟨by rw [h],by omega⟩
      · exact h3 u hu
    · rw [if_neg hc]
      obtain ⟨h1,h2,h3⟩:=fold_least f xs b (λu hu=>hb u (List.mem_cons_of_mem _ hu)) hp'
      generalize xs.foldl (λb v=>if f v<f b then v else b) b=r at h1 h2 h3
      refine ⟨h1.imp_right λh=>List.mem_cons_of_mem _ h,h2,λu hu=>?_⟩
      rcases List.mem_cons.1 hu with rfl|hu
      · rcases h2 with h|h
        · exact .inl (by omega)
        · rw [h];omega
      · exact h3 u hu
def takeF(rows:List (BitVec 64))(left:BitVec 64):Int:=(eo left).foldl (λb v=>if degB rows left v<degB rows left b then v else b) ((eo left).headD 0)
theorem takeF_takes{rows:List (BitVec 64)}{left:BitVec 64}(h:left≠0#64):Takes rows left (takeF rows left):=by
 have e:=listB_step h
 have ha:=listB_asc left
 unfold takeF
 have hh:(eo left).headD 0=tzB left:=by rw [e];rfl
 rw [hh]
 obtain ⟨h1,_,h3⟩:=fold_least (degB rows left) (eo left) (tzB left) (tzB_le h).2 ha
 refine ⟨?_,h3⟩
 rcases h1 with h1|h1
 ·rw [h1];exact (tzB_le h).1
 ·exact h1
def coreF(rows:List (BitVec 64)):Nat->BitVec 64->Nat->List (Int×Nat)
 |0,_,_=>[]
 |n+1,left,k=>(takeF rows left,max k (degB rows left (takeF rows left)))::coreF rows n (left &&& ~~~(1#64 <<< (takeF rows left).toNat)) (max k (degB rows left (takeF rows left)))
def coreR(rows:List (BitVec 64))(left:BitVec 64)(k:Nat):List (Int×Nat):=coreF rows (eo left).length left k
theorem coreR_zero(rows:List (BitVec 64))(k:Nat):coreR rows 0#64 k=[]:=by unfold coreR;rw [listB_zero];rfl
theorem coreR_step{rows:List (BitVec 64)}{left:BitVec 64}{k:Nat}{v:Int}(h:Takes rows left v):coreR rows left k=(v,max k (degB rows left v))::coreR rows (left &&& ~~~(1#64 <<< v.toNat)) (max k (degB rows left v)):=by
 have hv:takeF rows left=v:=(takeF_takes (nz_listB.2 ⟨v,h.mem⟩)).uniq h
 unfold coreR
 rw [listB_minus h.mem]
 show (takeF rows left,_)::_=_
 rw [hv]
def ordL(l:List (Int×Nat)):List Int:=l.map λp=>p.1
def numL(n:Nat)(l:List (Int×Nat)):List Int:=l.foldl (λxs p=>xs.set p.1.toNat (p.2:Int)) (List.replicate n 0)
theorem numL_len(n:Nat)(l:List (Int×Nat)):(numL n l).length=n:=by
 unfold numL
 have:∀(l:List (Int×Nat)) (xs:List Int),(l.foldl (λxs p=>xs.set p.1.toNat (p.2:Int)) xs).length=xs.length:=λl=>by
  induction l with
  |nil=>intro xs;rfl
  |cons p l ih=>intro xs;rw [List.foldl_cons,ih,List.length_set]
 rw [this,List.length_replicate]
theorem numL_snoc(n:Nat)(l:List (Int×Nat))(v:Int)(k:Nat):numL n (l++[(v,k)])=(numL n l).set v.toNat (k:Int):=by
 unfold numL;rw [List.foldl_append];rfl
theorem ordL_snoc(l:List (Int×Nat))(v:Int)(k:Nat):ordL (l++[(v,k)])=ordL l++[v]:=by
 unfold ordL;rw [List.map_append];rfl
structure SymB (n:Nat) (rows:List (BitVec 64)):Prop where
 len:rows.length=n
 le:n<=64
 lt:∀u v:Int,0<=u->u<n->v∈eo (e_ rows u)->v<n
 sym:∀u v:Int,0<=u->u<n->v∈eo (e_ rows u)->u∈eo (e_ rows v)
 irr:∀u:Int,0<=u->u<n->u∉eo (e_ rows u)
theorem RowsOk.mem{nd:Int}{es:List Pt}{rows:List (BitVec 64)}(h:RowsOk nd es rows){u v:Int}(u0:0<=u)(u1:u<nd):v∈eo (e_ rows u)↔(0<=v/\v<64)/\((⟨u,v⟩:Pt)∈es\/(⟨v,u⟩:Pt)∈es):=by
 constructor
 ·intro hv
  have hr:=listB_lt hv
  rw [mem_listB,h.bit u v u0 u1 hr.1 hr.2,decide_eq_true_eq] at hv
  exact ⟨hr,hv.2⟩
 ·rintro ⟨hr,hv⟩
  rw [mem_listB,h.bit u v u0 u1 hr.1 hr.2,decide_eq_true_eq]
  exact ⟨hr.1,hv⟩
theorem RowsOk.symB{nd:Int}{es:List Pt}{rows:List (BitVec 64)}(h:RowsOk nd es rows)(hG:GrOk nd es):SymB nd.toNat rows:=by
 have hr:=hG.rng
 have hl:=h.len
 have ed:∀a b:Int,((⟨a,b⟩:Pt)∈es)->0<=a/\a<b/\b<nd:=λa b hm=>hG.edge _ hm
 refine ⟨by omega,by omega,λu v u0 u1 hv=>?_,λu v u0 u1 hv=>?_,λu u0 u1 hv=>?_⟩
 ·have:=((h.mem u0 (by omega)).1 hv).2
  rcases this with e|e<;>have:=ed _ _ e<;>omega
 ·obtain ⟨h1,h2⟩:=(h.mem u0 (by omega)).1 hv
  have h3:v<nd:=by rcases h2 with e|e<;>have:=ed _ _ e<;>omega
  exact (h.mem h1.1 h3).2 ⟨⟨u0,by omega⟩,h2.symm⟩
 ·have:=((h.mem u0 (by omega)).1 hv).2
  rcases this with e|e<;>have:=ed _ _ e<;>omega
section
variable {n:Nat}{rows:List (BitVec 64)}
theorem degB_lt(h:SymB n rows)(left:BitVec 64){v:Int}(v0:0<=v)(v1:v<n):degB rows left v<n:=by
 unfold degB
 have hs:(v::eo (e_ rows v &&& left)).Nodup:=List.nodup_cons.2 ⟨λhm=>h.irr v v0 v1 (mem_andB.1 hm).1,listB_nodup _⟩
 have hsub:∀x∈(v::eo (e_ rows v &&& left)),x∈(List.range n).map fun (i:Nat)=>(i:Int):=λx hx=>by
  rw [List.mem_map]
  rcases List.mem_cons.1 hx with rfl|hx
  ·exact ⟨x.toNat,List.mem_range.2 (by omega),by omega⟩
  ·have h1:=(mem_andB.1 hx).1
   have h2:=h.lt v x v0 v1 h1
   have h3:=(listB_lt h1).1
   exact ⟨x.toNat,List.mem_range.2 (by omega),by omega⟩
 have:=List.Nodup.length_le_of_subset hs hsub
 rw [List.length_map,List.length_range,List.length_cons] at this
 omega
theorem degB_minus(h:SymB n rows){left:BitVec 64}{u v:Int}(u0:0<=u)(u1:u<n)(v0:0<=v)(v1:v<n)(hv:v∈eo left) :
  degB rows left u=degB rows (left &&& ~~~(1#64 <<< v.toNat)) u+if u∈eo (e_ rows v) then 1 else 0:=by
 unfold degB
 rw [←BitVec.and_assoc]
 by_cases hm:u∈eo (e_ rows v)
 ·rw [if_pos hm]
  exact listB_minus (mem_andB.2 ⟨h.sym v u v0 v1 hm,hv⟩)
 ·rw [if_neg hm]
  exact (minus_same v0 λe=>hm (h.sym u v u0 u1 (mem_andB.1 e).1)).symm
end
structure BkOk (n:Nat) (S:Int->Prop) (dg:Int->Nat) (dgs:List Int) (bks:List (BitVec 64)):Prop where
 dlen:dgs.length=n
 blen:bks.length=64
 rng:∀u,S u->0<=u/\u<n
 deg:∀u,S u->e_ dgs u=(dg u:Int)
 bkt:∀d:Int,0<=d->d<64->∀u:Int,u∈eo (e_ bks d)↔S u/\(dg u:Int)=d
section
variable {n:Nat}{S S':Int->Prop}{dg dg':Int->Nat}{dgs:List Int}{bks:List (BitVec 64)}
theorem BkOk.start(n:Nat)(dg:Int->Nat):BkOk n (λu=>0<=u/\u<((0:Nat):Int)) dg (List.replicate n 0) (List.replicate 64 0#64):=
 ⟨List.length_replicate,List.length_replicate,λu hu=>by omega,λu hu=>by omega,λd d0 d1 u=>by
  rw [at_rep64,listB_zero]
  exact ⟨(λh=>by cases h),λh=>by omega⟩⟩
theorem BkOk.congr(h:BkOk n S dg dgs bks)(hS:∀u,S' u↔S u)(hd:∀u,S u->dg' u=dg u):BkOk n S' dg' dgs bks:=
 ⟨h.dlen,h.blen,λu hu=>h.rng u ((hS u).1 hu),λu hu=>by rw [h.deg u ((hS u).1 hu),hd u ((hS u).1 hu)],λd d0 d1 u=>by
  rw [h.bkt d d0 d1 u,hS]
  constructor
  ·rintro ⟨h1,h2⟩;exact ⟨h1,by rw [hd u h1];exact h2⟩
  ·rintro ⟨h1,h2⟩;exact ⟨h1,by rw [←hd u h1];exact h2⟩⟩
theorem BkOk.push(h:BkOk n S dg dgs bks){v c:Int}(v0:0<=v)(v1:v<n)(hn:n<=64)(hS:∀u,S' u↔S u\/u=v)(hv:¬S v)(hc:c=(dg v:Int))(c1:c<64) :
  BkOk n S' dg (dgs.set v.toNat c) (bks.set c.toNat (e_ bks c ||| 1#64 <<< v.toNat)):=by
 have hbl:=h.blen
 have hdl:=h.dlen
 refine ⟨by rw [List.length_set];exact hdl,by rw [List.length_set];exact hbl,λu hu=>?_,λu hu=>?_,λd d0 d1 u=>?_⟩
 ·rcases (hS u).1 hu with hu|rfl
  ·exact h.rng u hu
  ·exact ⟨v0,v1⟩
 ·have hr:0<=u:=((hS u).1 hu).elim (λhu=>(h.rng u hu).1) λe=>by omega
  rw [at_set _ v u _ v0 hr (by omega)]
  rcases (hS u).1 hu with hu|rfl
  ·rw [if_neg (λe=>hv (by rw [e];exact hu))];exact h.deg u hu
  ·rw [if_pos rfl,hc]
 ·rw [at_set _ c d _ (by omega) d0 (by omega),hS]
  by_cases e:c=d
  ·rw [if_pos e,mem_orbit v0 (by omega),e,h.bkt d d0 d1]
   constructor
   ·rintro (⟨h1,h2⟩|rfl)
    ·exact ⟨.inl h1,h2⟩
    ·exact ⟨.inr rfl,by omega⟩
   ·rintro ⟨h1|rfl,h2⟩
    ·exact .inl ⟨h1,h2⟩
    ·exact .inr rfl
  ·rw [if_neg e,h.bkt d d0 d1]
   constructor
   ·rintro ⟨h1,h2⟩;exact ⟨.inl h1,h2⟩
   ·rintro ⟨h1|rfl,h2⟩
    ·exact ⟨h1,h2⟩
    ·exact absurd (hc.trans h2) e
theorem BkOk.drop(h:BkOk n S dg dgs bks){v d:Int}(hv:S v)(hd:(dg v:Int)=d)(d1:d<64)(hS:∀u,S' u↔S u/\u≠v) :
  BkOk n S' dg dgs (bks.set d.toNat (e_ bks d &&& ~~~(1#64 <<< v.toNat))):=by
 have hbl:=h.blen
 have hr:=h.rng v hv
 refine ⟨h.dlen,by rw [List.length_set];exact hbl,λu hu=>h.rng u ((hS u).1 hu).1,λu hu=>h.deg u ((hS u).1 hu).1,λc c0 c1 u=>?_⟩
 rw [at_set _ d c _ (by omega) c0 (by omega),hS]
 by_cases e:d=c
 ·rw [if_pos e,mem_minus hr.1,e,h.bkt c c0 c1]
  constructor
  ·rintro ⟨⟨h1,h2⟩,h3⟩;exact ⟨⟨h1,h3⟩,h2⟩
  ·rintro ⟨⟨h1,h3⟩,h2⟩;exact ⟨⟨h1,h2⟩,h3⟩
 ·rw [if_neg e,h.bkt c c0 c1]
  constructor
  ·rintro ⟨h1,h2⟩;exact ⟨⟨h1,λe2=>e (by subst e2;omega)⟩,h2⟩
  ·rintro ⟨⟨h1,_⟩,h2⟩;exact ⟨h1,h2⟩
theorem BkOk.lower(h:BkOk n S dg dgs bks)(hn:n<=64){w e:Int}(hw:S w)(he:(dg w:Int)=e)(e0:1<=e)(e1:e<64)(hd:∀u,S u->dg' u=if u=w then dg u - 1 else dg u) :
  BkOk n S dg' (dgs.set w.toNat (e - 1)) ((bks.set e.toNat (e_ bks e &&& ~~~(1#64 <<< w.toNat))).set (e - 1).toNat (e_ (bks.set e.toNat (e_ bks e &&& ~~~(1#64 <<< w.toNat))) (e - 1) ||| 1#64 <<< w.toNat)):=by
 have hr:=h.rng w hw
 have h1:BkOk n (λu=>S u/\u≠w) dg dgs _:=h.drop hw he e1 (S':=λu=>S u/\u≠w) λu=>Iff.rfl
 have h2:BkOk n (λu=>S u/\u≠w) dg' dgs _:=h1.congr (λu=>Iff.rfl) λu hu=>by rw [hd u hu.1,if_neg hu.2]
 have hdw:=hd w hw
 rw [if_pos rfl] at hdw
 refine (h2.push (S':=S) hr.1 hr.2 hn (λu=>?_) (λh=>h.2 rfl) (by omega) (by omega):BkOk n S dg' (dgs.set w.toNat (e - 1)) _)
 constructor
 ·intro hu
  by_cases e:u=w
  ·exact .inr e
  ·exact .inl ⟨hu,e⟩
 ·rintro (hu|rfl)
  ·exact hu.1
  ·exact hw
theorem BkOk.takes{rows:List (BitVec 64)}{left:BitVec 64}(h:BkOk n (λu=>u∈eo left) (degB rows left) dgs bks){d:Int}(d0:0<=d)(d1:d<64)(hd:e_ bks d≠0#64)(hlt:∀c:Int,0<=c->c<d->e_ bks c=0#64)(hdeg:∀u∈eo left,degB rows left u<64) :
  Takes rows left (tzB (e_ bks d))/\(degB rows left (tzB (e_ bks d)):Int)=d:=by
 obtain ⟨h1,h2⟩:=tzB_le hd
 obtain ⟨h3,h4⟩:=(h.bkt d d0 d1 _).1 h1
 refine ⟨⟨h3,λu hu=>?_⟩,h4⟩
 have hb:=hdeg u hu
 rcases Int.lt_trichotomy (degB rows left u:Int) d with h5|h5|h5
 ·have h6:=(h.bkt (degB rows left u:Int) (by omega) (by omega) u).2 ⟨hu,rfl⟩
  rw [hlt _ (by omega) h5,listB_zero] at h6
  cases h6
 ·exact .inr ⟨by omega,h2 u ((h.bkt d d0 d1 u).2 ⟨hu,h5⟩)⟩
 ·exact .inl (by omega)
theorem BkOk.some{rows:List (BitVec 64)}{left:BitVec 64}(h:BkOk n (λu=>u∈eo left) (degB rows left) dgs bks)(hl:left≠0#64)(hdeg:∀u∈eo left,degB rows left u<64)(hz:∀c:Int,0<=c->c<64->e_ bks c=0#64):False:=by
 obtain ⟨u,hu⟩:=nz_listB.1 hl
 have hb:=hdeg u hu
 have h6:=(h.bkt (degB rows left u:Int) (by omega) (by omega) u).2 ⟨hu,rfl⟩
 rw [hz _ (by omega) (by omega),listB_zero] at h6
 cases h6
end
def degM(rows:List (BitVec 64))(left:BitVec 64)(ws:List Int)(j:Nat)(u:Int):Nat:=if u∈ws.take j then degB rows left u - 1 else degB rows left u
theorem degM_zero(rows:List (BitVec 64))(left:BitVec 64)(ws:List Int)(u:Int):degM rows left ws 0 u=degB rows left u:=by unfold degM;rw [if_neg (by simp)]
theorem degM_succ{rows:List (BitVec 64)}{left:BitVec 64}{ws:List Int}{j:Nat}(hj:j<ws.length)(hn:ws.Nodup)(u:Int):degM rows left ws (j+1) u=if u=e_ ws j then degM rows left ws j u - 1 else degM rows left ws j u:=by
 have hnot:e_ ws j∉ws.take j:=by
  rw [at_get ws j hj]
  intro hm
  obtain ⟨i,hi,e⟩:=List.mem_iff_getElem.1 hm
  rw [List.length_take] at hi
  rw [List.getElem_take] at e
  exact (List.pairwise_iff_getElem.1 hn) i j (by omega) hj (by omega) e
 unfold degM
 rw [take_at ws j hj]
 simp only [List.mem_append,List.mem_singleton]
 by_cases e:u=e_ ws j
 ·subst e
  rw [if_pos (.inr rfl),if_pos rfl,if_neg hnot]
 ·rw [if_neg e]
  by_cases h2:u∈ws.take j
  ·rw [if_pos (.inl h2),if_pos h2]
  ·rw [if_neg (by rintro (h3|h3);exact h2 h3;exact e h3),if_neg h2]
theorem degM_now{rows:List (BitVec 64)}{left:BitVec 64}{ws:List Int}{j:Nat}(hj:j<ws.length)(hn:ws.Nodup):degM rows left ws j (e_ ws j)=degB rows left (e_ ws j):=by
 have h1:=degM_succ (rows:=rows) (left:=left) hj hn (e_ ws j)
 rw [if_pos rfl] at h1
 unfold degM at h1 ⊢
 split
 ·rename_i h2
  have hnot:e_ ws j∉ws.take j:=by
   rw [at_get ws j hj]
   intro hm
   obtain ⟨i,hi,e⟩:=List.mem_iff_getElem.1 hm
   rw [List.length_take] at hi
   rw [List.getElem_take] at e
   exact (List.pairwise_iff_getElem.1 hn) i j (by omega) hj (by omega) e
  exact absurd h2 hnot
 ·rfl
theorem degM_all{n:Nat}{rows:List (BitVec 64)}(h:SymB n rows){left:BitVec 64}{v:Int}(v0:0<=v)(v1:v<n)(hv:v∈eo left){u:Int}(u0:0<=u)(u1:u<n)(hu:u∈eo (left &&& ~~~(1#64 <<< v.toNat))){j:Nat}(hj:(eo (e_ rows v &&& (left &&& ~~~(1#64 <<< v.toNat)))).length<=j) :
  degM rows left (eo (e_ rows v &&& (left &&& ~~~(1#64 <<< v.toNat)))) j u=degB rows (left &&& ~~~(1#64 <<< v.toNat)) u:=by
 have h1:=degB_minus h u0 u1 v0 v1 hv
 unfold degM
 rw [List.take_of_length_le hj]
 by_cases hm:u∈eo (e_ rows v)
 ·rw [if_pos (mem_andB.2 ⟨hm,hu⟩)];rw [if_pos hm] at h1;omega
 ·rw [if_neg (λe=>hm (mem_andB.1 e).1)];rw [if_neg hm] at h1;omega
end Go.Sl
namespace Go.Sl
section
variable {P:Program}
def flatF(P:Program):List Field->Nat->Bool
 |[],_=>true
 | f :: fs, o => (f.name != "_") && (match P.underlying f.type with | some (.int .i64) => true | _ => false) && (f.offset == o) && flatF P fs (o + 1)
theorem run_eqFlat(d:Nat)(w:World)(ns ms:List Int):∀(fs:List Field) (o:Nat),flatF P fs o=true->ns.length=o+fs.length->ms.length=o+fs.length->
  (Op.eqFields (d+1) (ns.map e7).toArray (ms.map e7).toArray fs).run P w = .ok (decide (ns.drop o=ms.drop o)) w
 |[],o,_,hn,hm=>by
  have h1:ns.drop o=[]:=List.drop_eq_nil_of_le (by simp at hn;omega)
  have h2:ms.drop o=[]:=List.drop_eq_nil_of_le (by simp at hm;omega)
  simp [Op.eqFields,h1,h2]
 |f::fs,o,h,hn,hm=>by
  simp only [flatF,Bool.and_eq_true,bne_iff_ne,beq_iff_eq] at h
  obtain ⟨⟨⟨h1,h2⟩,h3⟩,h4⟩:=h
  have hu:P.underlying f.type=some (.int .i64):=by
   revert h2
   split
   ·intro _;assumption
   ·intro h;cases h
  simp only [List.length_cons] at hn hm
  have hno:o<ns.length:=by omega
  have hmo:o<ms.length:=by omega
  have ha:(isAgg f.type).run P w = .ok false w:=by simp [isAgg,run_underlying hu]
  have hp:∀(ks:List Int) (hk:o<ks.length),(part f.type (ks.map e7).toArray f.offset).run P w = .ok (e7 ks[o]) w:=λks hk=>by
   simp [part,ha,h3,hk]
  have ih:=run_eqFlat d w ns ms fs (o+1) h4 (by omega) (by omega)
  simp only [Op.eqFields,if_pos h1,Sem.run_bind,hp ns hno,hp ms hmo,Result.andThen_ok,run_equalIn_int _ _ _ _ _ _ _ hu]
  have key:(ns.drop o=ms.drop o)↔(ns[o]=ms[o]/\ns.drop (o+1)=ms.drop (o+1)):=by rw [List.drop_eq_getElem_cons hno,List.drop_eq_getElem_cons hmo,List.cons.injEq]
  have key2:decide (ns.drop o=ms.drop o)=decide (ns[o]=ms[o]/\ns.drop (o+1)=ms.drop (o+1)):=decide_eq_decide.2 key
  rw [key2]
  by_cases he:ns[o]=ms[o]
  ·simp [he,ih]
  ·simp [he]
theorem EqT.flat{α:Type}[Enc α][DecidableEq α]{T n:Nat}(ints:α->List Int)(henc:∀x,Enc.enc x=(ints x).map e7)(hinj:∀x y,ints x=ints y->x=y)(hlen:∀x,(ints x).length=n)
  (ht:P.underlying T=some (.struct (P.fieldsOf T))) (hp:P.stoodInHeld T=false) (hf:flatF P (P.fieldsOf T).toList 0=true) (hn:(P.fieldsOf T).size=n) (hg:P.eqGuardType P.depth T=false):EqT P T α:=by
 refine ⟨λx y w=>?_,hg⟩
 rw [show (10000:Nat)=9999+1 from rfl,run_equalIn_struct w 9999 T _ _ ht hp,henc,henc,show (9999:Nat)=9998+1 from rfl,
  run_eqFlat 9998 w (ints x) (ints y) _ 0 hf (by rw [hlen,Array.length_toList,hn];omega) (by rw [hlen,Array.length_toList,hn];omega)]
 congr 1
 rw [List.drop_zero,List.drop_zero,decide_eq_decide]
 exact ⟨hinj x y,λe=>by rw [e]⟩
end
end Go.Sl
namespace Go.Sl
theorem u64_nat{n:Int}(h0:0<=n)(h1:n<18446744073709551616):∃b:BitVec 64,n=(b.toNat:Int):=
 ⟨BitVec.ofNat 64 n.toNat,by rw [BitVec.toNat_ofNat];omega⟩
section
variable {P:Program}{κ:Ctx}{N:Frm}{L:Env}{J:List Item}{d:Option Tmp}{ty:TypeId}{ps:String}{af:Array Edge}{gd:Option (Nat×Bool)}{x y:Operand}{T U:TypeId}{k':IntKind}
theorem Runs.shrU{m n:Int}(hx:er L x=some (.int .u64 m))(hy:er L y=some (.int k' n))(h0:0<=n)(h1:n<64):Runs P κ N ⟨d,.binOp .shr T x y U,ty,ps,af,gd⟩ L J (.int .u64 (m / 2 ^ n.toNat)):=by
 have h:=Runs.shrw (P:=P) (κ:=κ) (N:=N) (J:=J) (d:=d) (ty:=ty) (ps:=ps) (af:=af) (gd:=gd) (T:=T) (U:=U) hx hy h0
 have e:m.fdiv (2 ^ Min.min n.toNat IntKind.u64.bits)=m / 2 ^ n.toNat:=by
  rw [show Min.min n.toNat IntKind.u64.bits=n.toNat by show Min.min n.toNat 64=_;omega,Int.fdiv_eq_ediv_of_nonneg _ (Int.pow_nonneg (by decide))]
 rwa [e] at h
end
theorem V.retcc{P:Program}{κ:Ctx}{N:Frm}{L:Env}{I:List Item}{fn:Func}{t u:Tmp}{T U b b' E E' sz sz' by' by2:Nat}{z z' cs ds:List Value}{Post:Value->List Item->Prop}(hr:fn.results = #[.cell t T,.cell u U])(hT:tyF P T=some (sz,true,by',z))(hU:tyF P U=some (sz',true,by2,z'))
  (hv:look L t=some (.pointer (some ⟨b,0,none⟩))) (hv':look L u=some (.pointer (some ⟨b',0,none⟩))) (hb:e8 b cs E∈I) (hb':e8 b' ds E'∈I)
  (hl:cs.length=sz) (hl':ds.length=sz') (J:List Item) (hf:Fit κ I J) (hp:Post (.tuple #[.agg cs.toArray,.agg ds.toArray]) J) (h0:N.ds=[]:=by rfl):V κ N (bodyPost P fn (RetR κ Post)) .ret L I:=
 λa w ha hs=>by
  have hcell:=λj=>cell_blk (w:=w) (hs.ok _ hb).1 j
  have hcell2:=λj=>cell_blk (w:=w) (hs.ok _ hb').1 j
  have hload:(loadVar T ⟨b,0,none⟩).run P w = .ok (.agg cs.toArray) w:=run_loadVar_agg hT hl λj u hj=>by rw [addr_add,hcell,←hj];simp
  have hload2:(loadVar U ⟨b',0,none⟩).run P w = .ok (.agg ds.toArray) w:=run_loadVar_agg hU hl' λj u hj=>by rw [addr_add,hcell2,←hj];simp
  refine bodyPost_ret (v:= .tuple #[.agg cs.toArray,.agg ds.toArray]) ?_ (ha.defers.trans h0) ⟨_,J,rfl,hp,hf w hs⟩
  simp [results,hr,ha.get t _ hv,ha.get u _ hv',asAddr,hload,hload2]
end Go.Sl
namespace Go.Sl
section
variable {P:Program}{κ:Ctx}{N:Frm}{L:Env}{J:List Item}{d:Option Tmp}{ty:TypeId}{ps:String}{af:Array Edge}{gd:Option (Nat×Bool)}{x y:Operand}{T U:TypeId}{k':IntKind}
theorem Runs.mulU{m n r:Int}(hx:er L x=some (.int .u64 m))(hy:er L y=some (.int .u64 n))(hr:m*n=r)(h0:0<=r)(h1:r<18446744073709551616):Runs P κ N ⟨d,.binOp .mul T x y U,ty,ps,af,gd⟩ L J (.int .u64 r):=by
 have h:=Runs.mulw (P:=P) (κ:=κ) (N:=N) (J:=J) (d:=d) (ty:=ty) (ps:=ps) (af:=af) (gd:=gd) (T:=T) (U:=U) hx hy
 have e:IntKind.u64.wrap (m*n)=r:=by rw [u64_wrap,hr];omega
 rwa [e] at h
theorem Runs.addU{m n r:Int}(hx:er L x=some (.int .u64 m))(hy:er L y=some (.int .u64 n))(hr:m+n=r)(h0:0<=r)(h1:r<18446744073709551616):Runs P κ N ⟨d,.binOp .add T x y U,ty,ps,af,gd⟩ L J (.int .u64 r):=by
 have h:=Runs.addw (P:=P) (κ:=κ) (N:=N) (J:=J) (d:=d) (ty:=ty) (ps:=ps) (af:=af) (gd:=gd) (T:=T) (U:=U) hx hy
 have e:IntKind.u64.wrap (m+n)=r:=by rw [u64_wrap,hr];omega
 rwa [e] at h
theorem Runs.lowU{m r:Int}(hx:er L x=some (.int .u64 m))(hy:er L y=some (.int .u64 4294967295))(h0:0<=m)(h1:m<18446744073709551616)(hr:m % 4294967296=r):Runs P κ N ⟨d,.binOp .and T x y U,ty,ps,af,gd⟩ L J (.int .u64 r):=by
 obtain ⟨b,rfl⟩:=u64_nat h0 h1
 have h:=Runs.andB (P:=P) (κ:=κ) (N:=N) (J:=J) (d:=d) (ty:=ty) (ps:=ps) (af:=af) (gd:=gd) (T:=T) (U:=U) (b:=4294967295#64) hx hy
 have e:((b &&& 4294967295#64).toNat:Int)=r:=by
  rw [BitVec.toNat_and,show (4294967295#64).toNat=2 ^ 32 - 1 from rfl,Nat.and_two_pow_sub_one_eq_mod,←hr];rfl
 rw [←e];exact h
theorem Runs.shr32{m r:Int}(hx:er L x=some (.int .u64 m))(hy:er L y=some (.int k' 32))(hr:m / 4294967296=r):Runs P κ N ⟨d,.binOp .shr T x y U,ty,ps,af,gd⟩ L J (.int .u64 r):=by
 have h:=Runs.shrU (P:=P) (κ:=κ) (N:=N) (J:=J) (d:=d) (ty:=ty) (ps:=ps) (af:=af) (gd:=gd) (T:=T) (U:=U) hx hy (by decide) (by decide)
 rw [show (2:Int) ^ (32:Int).toNat=4294967296 from rfl,hr] at h
 exact h
end
end Go.Sl
namespace Go.Sl
section
variable {P:Program}{κ:Ctx}{N:Frm}{Q:Exit->Act->World->Prop}{L:Env}{I J:List Item}
variable {d:Option Tmp}{ty:TypeId}{ps:String}{af:Array Edge}{gd:Option (Nat×Bool)}
theorem Runs.getAU{xs:List (BitVec 64)}{x:Operand}{T sz by' b E:Nat}{z:List Value}{i:Int}(hT:tyF P T=some (sz,false,by',z))(hx:er L x=some (.pointer (some ⟨b,0+i.toNat*1,none⟩)))(hb:BlkRd κ J b (cells xs) E)(h0:0<=i)(hn:i<xs.length) :
  Runs P κ N ⟨d,.load T x,ty,ps,af,gd⟩ L J (U64 (e_ xs i)):=by
 refine Runs.loadB hT hx hb ?_
 have:=cells_get xs i.toNat 0 (by omega) (by decide)
 rw [show 0+i.toNat*1=i.toNat*Enc.sz (BitVec 64)+0 by show 0+i.toNat*1=i.toNat*1+0;omega,this,at_eq h0 hn];rfl
theorem cells_setU(xs:List (BitVec 64))(i:Nat)(n:BitVec 64)(h:i<xs.length):(cells xs).take i++[U64 n]++(cells xs).drop (i+1)=cells (xs.set i n):=by
 induction xs generalizing i with
 |nil=>simp at h
 |cons x xs ih=>
  cases i with
  |zero=>rfl
  |succ i=>
   have h':i<xs.length:=by simpa using h
   have e:cells (x::xs)=U64 x::cells xs:=rfl
   rw [e,List.set_cons_succ]
   have e2:cells (x::xs.set i n)=U64 x::cells (xs.set i n):=rfl
   rw [e2,←ih i h'];rfl
theorem Eff.setAU{xs:List (BitVec 64)}{x y:Operand}{T sz by' b E:Nat}{ag:Bool}{z:List Value}{i:Int}{n:BitVec 64}{I':List Item}(hT:tyF P T=some (sz,ag,by',z))(hs1:sz=1)(hx:er L x=some (.pointer (some ⟨b,0+i.toNat*1,none⟩)))(hy:er L y=some (U64 n))(h0:0<=i)(hn:i<xs.length)
  (hat:At I (e8 b (cells xs) E) (e8 b (cells (xs.set i.toNat n)) E) I') :
  Eff P κ N Q ⟨none,.store T x y,ty,ps,af,gd⟩ L I λL' I''=>L'=L/\I''=I':=by
 have hl:(cells xs).length=xs.length:=by rw [cells_length];show xs.length*1=_;omega
 refine Eff.store (vs:=[U64 n]) (cs':=cells (xs.set i.toNat n)) hT hx hy C (by rw [hs1];rfl) (λu hu=>by rw [List.mem_singleton] at hu;subst hu;rfl) (by rw [hl];simp;omega) ?_ hat
 have h:=cells_setU xs i.toNat n (by omega)
 rw [show 0+i.toNat*1=i.toNat by omega]
 exact h
end
end Go.Sl
namespace Go.Sl
open Go
section
variable {P:Program}{ops:Array Oper}{Q:Exit->Act->World->Prop}{md:Region.Mode}{S:World->Prop}
def wpAnyK(P:Program)(md:Region.Mode)(ops:Array Oper)(Q:Exit->Act->World->Prop)(S:World->Prop)(stop:Nat)(K:Nat->Array Bool->Act->World->Prop):Nat->Array Bool->Act->World->Prop
 |0,listed,a,w=>Region.ready md ops listed=[]/\Q .normal a w
 |fuel+1,listed,a,w=>
  (Region.ready md ops listed=[stop]->K (fuel+1) listed a w)/\
  (Region.ready md ops listed≠[stop]->(Region.ready md ops listed=[]->Q .normal a w)/\
   ∀i∈Region.ready md ops listed,wpOp P ops Q i (λa' w'=>S w'/\wpAnyK P md ops Q S stop K fuel (listed.setIfInBounds i true) a' w') a w)
variable {K:Nat->Array Bool->Act->World->Prop}
theorem wpAny_of_K{stop:Nat}(hK:∀fuel listed a w,K fuel listed a w->wpAny P md ops Q fuel listed a w):∀(fuel:Nat) (listed:Array Bool) (a:Act) (w:World),wpAnyK P md ops Q S stop K fuel listed a w->wpAny P md ops Q fuel listed a w
 |0,_,_,_,h=>h
 |fuel+1,listed,a,w,h=>by
  by_cases hr:Region.ready md ops listed=[stop]
  ·exact hK _ _ _ _ (h.1 hr)
  ·exact ⟨(h.2 hr).1,λi hi=>wpOp_mono (λa' w' h'=>wpAny_of_K hK fuel _ a' w' h'.2) ((h.2 hr).2 i hi)⟩
theorem wpAnyT_of_K{S0:World->Prop}(hS:∀w,S w->S0 w){n stop:Nat}:∀(fuel:Nat) (listed:Array Bool) (a:Act) (w:World),wpAnyK P md ops Q S stop (wpAnyT P md ops Q S0 n) fuel listed a w->wpAnyT P md ops Q S0 n fuel listed a w
 |0,_,_,_,h=>h
 |fuel+1,listed,a,w,h=>by
  by_cases hr:Region.ready md ops listed=[stop]
  ·exact h.1 hr
  ·refine ⟨λ_=>wpAny_of_K (λ_ _ _ _ h=>wpAny_of_T _ _ _ _ h) _ _ _ _ h,λ_=>⟨(h.2 hr).1,λi hi=>wpOp_mono (λa' w' h'=>⟨hS w' h'.1,wpAnyT_of_K hS fuel _ a' w' h'.2⟩) ((h.2 hr).2 i hi)⟩⟩
theorem wpAnyK_first{stop i:Nat}{oi:Oper}{v:Value}(hi:ops[i]? = some oi)(hsel:∀(j:Nat) (o:Oper) cs b,ops[j]? = some o->o.op ≠ .select cs b)(hne:i≠stop)(hwait:waitsFor md ops stop i=true)
  (hQ:∀c a w,Q (.panic c) (a.put oi.dst v) w->Q (.panic c) a w) :
  ∀(fuel:Nat) (listed:Array Bool) (a:Act) (w:World),
   (∀j oj,ops[j]? = some oj->j≠i->listed.getD j true=false->(∀e∈oj.after,Region.binds md e=true->e.on≠i)->oi.apart ops oj=true)->
   i∈Region.ready md ops listed->YieldsIf P ops S oi v a->S w->
   wpAnyK P md ops Q S stop K fuel (listed.setIfInBounds i true) (a.put oi.dst v) w->wpAnyK P md ops Q S stop K (fuel+1) listed a w:=by
 intro fuel
 induction fuel with
 |zero=>
  intro listed a w _ hr hy hS H
  refine ⟨λh=>(by rw [h] at hr;exact absurd (by simpa using hr) hne),λ_=>⟨λh=>(by rw [h] at hr;cases hr),λj hj=>?_⟩⟩
  by_cases hji:j=i
  ·subst hji;exact hy.wpOp hi hS ⟨hS,H⟩
  ·have:=ready_mono hj hji
   rw [H.1] at this
   cases this
 |succ fuel ih=>
  intro listed a w hfree hr hy hS H
  refine ⟨λh=>(by rw [h] at hr;exact absurd (by simpa using hr) hne),λ_=>⟨λh=>(by rw [h] at hr;cases hr),λj hj=>?_⟩⟩
  by_cases hji:j=i
  ·subst hji;exact hy.wpOp hi hS ⟨hS,H⟩
  ·have hjr:=ready_mono hj hji
   have hns:Region.ready md ops (listed.setIfInBounds i true)≠[stop]:=λh=>by
    rw [h] at hjr
    obtain rfl:j=stop:=by simpa using hjr
    exact not_waits hr hj hwait
   have h1:=(H.2 hns).2 j hjr
   obtain ⟨hjun,oj,hoj,hall⟩:=mem_ready.1 hj
   have hnot:=ready_unlisted hr hj hoj
   have h2:=wpOp_putIf hoj (hfree j oj hoj hji hjun hnot) (λcs b=>hsel i oi cs b hi) (λcs b=>hsel j oj cs b hoj) hQ hy h1
   have hfree':∀k ok,ops[k]? = some ok->k≠i->(listed.setIfInBounds j true).getD k true=false->
     (∀e∈ok.after,Region.binds md e=true->e.on≠i)->oi.apart ops ok=true:=λk ok hk hki hun hno=>by
    refine hfree k ok hk hki ?_ hno
    by_cases hjk:j=k
    ·subst hjk;exact hjun
    ·rw [getD_set_ne true hjk] at hun;exact hun
   refine wpOp_mono (λa' w' h3=>⟨h3.2.1,ih (listed.setIfInBounds j true) a' w' hfree' (ready_mono hr (Ne.symm hji)) h3.1 h3.2.1 ?_⟩) h2
   rw [Array.setIfInBounds_comm _ _ hji]
   exact h3.2.2
theorem wpAnyK_take{stop i:Nat}{oi:Oper}{v:Value}{fuel:Nat}{listed:Array Bool}{a:Act}{w:World}(hi:ops[i]? = some oi)
  (hs:Region.noSelect ops=true) (hf:Region.free md ops listed i=true) (hr:(Region.ready md ops listed).contains i=true) (hne:Nat.beq i stop=false) (hwait:waitsFor md ops stop i=true)
  (hQ:∀c a w,Q (.panic c) (a.put oi.dst v) w->Q (.panic c) a w) (hy:YieldsIf P ops S oi v a) (hS:S w)
  (h:wpAnyK P md ops Q S stop K fuel (listed.setIfInBounds i true) (a.put oi.dst v) w):wpAnyK P md ops Q S stop K (fuel+1) listed a w:=
 wpAnyK_first hi (Region.noSelect_spec hs) (λe=>by subst e;simp at hne) hwait hQ fuel listed a w (Region.free_spec hi hf) (by simpa using hr) hy hS h
end
section
variable {P:Program}{κ:Ctx}{N:Frm}{ops:Array Oper}{Q:Exit->Act->World->Prop}{I J J0:List Item}{L:Env}{o:Oper}{n:Nat}
def D2(P:Program)(κ:Ctx)(N:Frm)(ops:Array Oper)(Q:Exit->Act->World->Prop)(J0:List Item)(n:Nat)(J:List Item)(stop fuel:Nat)(listed:Array Bool)(L:Env)(I:List Item):Prop:=
 ∀a w,Ag N a L->Sep κ w I->wpAnyK P .any ops Q (λw=>Sep κ w J) stop (wpAnyT P .any ops Q (λw=>Sep κ w J0) n) fuel listed a w
theorem D.two{fuel:Nat}{listed:Array Bool}(J:List Item)(stop:Nat)(hf:Fit κ J J0)(h:D2 P κ N ops Q J0 n J stop fuel listed L I):D P κ N ops Q J0 n fuel listed L I:=λa w ha hs=>wpAnyT_of_K (λw' hw=>hf w' hw) _ _ _ _ (h a w ha hs)
theorem D2.stop{stop fuel:Nat}{listed:Array Bool}(hr:Region.ready .any ops listed=[stop])(h:D P κ N ops Q J0 n (fuel+1) listed L I):D2 P κ N ops Q J0 n J stop (fuel+1) listed L I:=
 λa w ha hs=>⟨λ_=>h a w ha hs,λhne=>absurd hr hne⟩
theorem D2.read{stop fuel:Nat}{listed:Array Bool}{d:Nat}{v:Value}(i:Nat)(hi:ops[i]? = some o)(hns:Region.noSelect ops=true)(hf:Region.free .any ops listed i=true)
  (hr:(Region.ready .any ops listed).contains i=true) (hne:Nat.beq i stop=false) (hwt:waitsFor .any ops stop i=true) (hQ:∀c a u w,Q (.panic c) (a.put o.dst u) w->Q (.panic c) a w) (hw:Wanted N ops o L) (hd:o.dst=some d) (hN:Nat.blt d N.n=true)
  (hJ:Fit κ I J) (hrun:Runs P κ N o L J v) (h:D2 P κ N ops Q J0 n J stop fuel (listed.setIfInBounds i true) ((d,v)::L) I):D2 P κ N ops Q J0 n J stop (fuel+1) listed L I:=λa w ha hs=>by
 refine wpAnyK_take hi hns hf hr hne hwt (λc a w=>hQ c a v w) (.inl ⟨hw a ha,λw' hs'=>hrun a w' ha hs'⟩) (hJ w hs) ?_
 have ha':=ha.put d hN v
 rw [←hd] at ha'
 exact h _ w ha' hs
def Step2(P:Program)(κ:Ctx)(N:Frm)(ops:Array Oper)(Q:Exit->Act->World->Prop)(J0:List Item)(n:Nat)(J:List Item)(stop fuel:Nat)(listed:Array Bool)(L:Env)(I:List Item)(i:Nat):Prop:=
 ∀a w,Ag N a L->Sep κ w I->wpOp P ops Q i (λa' w'=>Sep κ w' J/\wpAnyK P .any ops Q (λw=>Sep κ w J) stop (wpAnyT P .any ops Q (λw=>Sep κ w J0) n) fuel (listed.setIfInBounds i true) a' w') a w
theorem D2.step{stop fuel:Nat}{listed:Array Bool}{rs:List Nat}(hr:Region.ready .any ops listed=rs)(hne:rs.isEmpty=false)(hns:(rs==[stop])=false)(h:∀i∈rs,Step2 P κ N ops Q J0 n J stop fuel listed L I i):D2 P κ N ops Q J0 n J stop (fuel+1) listed L I:=
 λa w ha hs=>⟨λh0=>(by rw [hr] at h0;simp [h0] at hns),λ_=>⟨λh0=>(by rw [hr] at h0;simp [h0] at hne),λi hi=>h i (hr▸hi) a w ha hs⟩⟩
theorem Step2.eff{stop fuel:Nat}{listed:Array Bool}{i:Nat}{R:Env->List Item->Prop}(hi:ops[i]? = some o)(hw:Wanted N ops o L)(he:Eff P κ N Q o L I R)
  (h:∀L' I',R L' I'->Fit κ I' J/\D2 P κ N ops Q J0 n J stop fuel (listed.setIfInBounds i true) L' I'):Step2 P κ N ops Q J0 n J stop fuel listed L I i:=λa w ha hs=>by
 unfold wpOp
 simp only [hi,hw a ha,if_true]
 exact .inl (Oper.wp_mono (λa' w' ⟨L',I',hR,ha',hs'⟩=>⟨(h L' I' hR).1 w' hs',(h L' I' hR).2 a' w' ha' hs'⟩) (he a w ha hs))
end
end Go.Sl
namespace Go.Sl
open Go.Proofs
abbrev Aa:= @Sub.cons
abbrev Ab:= @Runs.fieldAddr
abbrev Ac:= @V.then_exit
abbrev Ad:= @Tryz.underlying22
abbrev Af:= @Runs.move
abbrev Ah:= @G.nt
abbrev Ai:= @V.then
abbrev Aj:= @W.sr
abbrev Ak:= @V.block_normal
abbrev Al:= @Runs.pickf
abbrev Am:= @Eff.call
abbrev Ao:= @V.block_miss
abbrev Ap:= @Runs.pickt
abbrev Ar:= @V.then_ret
abbrev As:= @Runs.ld
abbrev Au:= @W.seq
abbrev Av:= @W.sub
abbrev Aw:= @V.block_hit
abbrev Ax:= @Runs.extract
abbrev Ay:= @Fit.m
abbrev Az:= @W.ret
abbrev A0:= @W.region
abbrev A2:= @Runs.idx
abbrev A3:= @V.block_ret
abbrev A4:= @W.skip
abbrev A5:= @Fit.sub
abbrev A6:= @W.block
abbrev A7:= @Tryz.underlying109
abbrev A8:= @Fit.trans
abbrev A9:= @Eff.alloc
abbrev Ba:= @V.ret1
abbrev Bb:= @Runs.assign
abbrev Bc:= @Runs.build
abbrev Bd:= @W.ite
abbrev Be:= @Runs.lds
abbrev Bf:= @G.nil
abbrev Bg:= @Eff.box
abbrev Bh:= @Tryz.underlying28
abbrev Bi:= @Runs.lss
abbrev Bj:= @Sl.f
abbrev Bk:= @Sl.o
abbrev Bl:= @Runs.eql
abbrev Bm:= @Wanted.plain
abbrev Bo:= @Tryz.underlying3
abbrev Bp:= @W.exit
abbrev Bq:= @Sub.nil
abbrev Br:= @Runs.nilCheck
abbrev Bs:= @G.split
abbrev Bt:= @W.drawn
abbrev Bu:= @Tryz.underlying46
abbrev Bv:= @Fit.s
abbrev Bw:= @TabRd.fit
abbrev Bx:= @Runs.neq
abbrev Bz:= @Runs.lens
abbrev B0:= @Tryz.underlying40
abbrev B3:= @Runs.get
abbrev B4:= @Eff.st
abbrev B5:= @Tryz.underlying79
abbrev B6:= @Tryz.underlying228
abbrev B7:= @Runs.gets
abbrev B8:= @Runs.not
abbrev B9:= @Fit.nilvc
abbrev Ca:= @W.loop
abbrev Cb:= @Runs.lenT
abbrev Cc:= @Tryz.underlying160
abbrev Cd:= @Tryz.underlying90
abbrev Ce:= @Sl.fit
abbrev Cf:= @V.retc
abbrev Cg:= @eu.pull
abbrev Ch:= @V.nx
abbrev Ci:= @Runs.gtr
abbrev Cj:= @Eff.bs
abbrev Ck:= @G.splitb
abbrev Cl:= @Tryz.underlying81
abbrev Cm:= @Tryz.underlying64
abbrev Cn:= @Eff.app
abbrev Co:= @Tryz.underlying337
abbrev Cp:= @V.mi
abbrev Cq:= @at_mem
abbrev Cr:= @lookO
abbrev Cs:= @Es2_2
abbrev Ct:= @Runs.getf0
abbrev Cu:= @Runs.geq
abbrev Cv:= @Runs.idxArr
abbrev Cw:= @Eff.make
abbrev Cx:= @Tryz.underlying58
abbrev Cy:= @Eff.set
abbrev Cz:= @Wanted.on
abbrev C0:= @Eff.callv
abbrev C1:= @eu.fit
abbrev C2:= @BlkRd.of
abbrev C3:= @Runs.andB
abbrev C4:= @V.ret2
abbrev C5:= @BlkRd.fit
abbrev C6:= @Runs.loadB
abbrev C7:= @A.ho
abbrev C8:= @Tryz.underlying264
abbrev C9:= @A.hold
abbrev Da:= @lookV
abbrev Db:= @at_get
abbrev Dc:= @D.stop
abbrev De:= @A.done
abbrev Df:= @Runs.lookupK
abbrev Dg:= @sumN_congr
abbrev Dh:= @at_set
abbrev Di:= @take_at
abbrev Dj:= @Tryz.underlying65
abbrev Dk:= @Tryz.underlying31
abbrev Dl:= @lookI
abbrev Dn:= @Es5_5
abbrev Do:= @W.yes
abbrev Dp:= @Es7_1
abbrev Dq:= @WR.region
abbrev Ds:= @Runs.neqT
abbrev Dt:= @Eff.insertK
abbrev Du:= @listB_zero
abbrev Dv:= @D.step
abbrev Dw:= @Sl.drop
abbrev Dx:= @Tryz.underlying301
abbrev Dy:= @Tryz.underlying297
abbrev D0:= @Tryz.underlying175
abbrev D1:= @Tryz.underlying135
abbrev D3:= @V.retc1
abbrev D4:= @D.split
abbrev D5:= @Runs.notd
abbrev D6:= @V.thenR
abbrev D7:= @Runs.max
abbrev D8:= @Runs.andNotB
abbrev D9:= @listB_nodup
abbrev Ea:= @Tryz.underlying339
abbrev Eb:= @Tryz.underlying277
abbrev Ec:= @Tryz.underlying211
abbrev Ed:= @Tryz.underlying181
abbrev Ee:= @Tryz.underlying108
abbrev Ef:= @D.read
abbrev Eg:= @at_append_left
abbrev Eh:= @Runs.neB
abbrev Ei:= @Runs.leq
abbrev Ej:= @eu.at
abbrev Ek:= @scanL_bad
abbrev El:= @mem_listB
abbrev Em:= @listB_len
abbrev En:= @all1
abbrev Eo:= @W.no
abbrev Ep:= @Step2.eff
abbrev Eq:= @Runs.shlB
abbrev Er:= @Runs.makeFunc
abbrev Es:= @Runs.fld
abbrev Et:= @G.eff
abbrev Eu:= @drop_at
abbrev Ew:= @Runs.lo
abbrev Ex:= @all2
abbrev Ey:= @WR.seq
abbrev Ez:= @W.cond
abbrev E0:= @Runs.orB
abbrev E1:= @Runs.loraw
abbrev E3:= @Runs.getf
abbrev E4:= @GY.read
abbrev E5:= @V.roundB
abbrev E6:= @Es6_6
abbrev E7:= @sortZ_len
abbrev E8:= @Tryz.underlying102
abbrev E9:= @Runs.min
abbrev Fa:= @isort_permG
abbrev Fb:= @WR.sub
abbrev Fc:= @A.read
abbrev Fd:= @listB_lt
abbrev Fe:= @W.cut
abbrev Ff:= @Tryz.underlying5
abbrev Fg:= @Tryz.underlying4
abbrev Fh:= @Sl.dropn
abbrev Fi:= @Runs.shrB
abbrev Fj:= @Runs.mul
abbrev Fk:= @Fit.refl
abbrev Fl:= @Es7_7
abbrev Fm:= @sumN_eq_zero
abbrev Fo:= @Sl.vec
abbrev Fp:= @Runs.getAU
abbrev Fq:= @Runs.convU
abbrev Fs:= @D2.step
theorem kr{p:Prop}(h:p:=by kernel_rfl):p:=h
theorem dc{p:Prop}(h:p:=by decide):p:=h
theorem lcn{p:Prop}(h:p:=by simp only [List.length_cons,List.length_nil];omega):p:=h
theorem asm{p:Prop}(h:p:=by assumption):p:=h
theorem lat{p:Prop}(h:p:=by first|omega|(simp only [List.length_append,List.length_take,List.length_drop,List.length_replicate]<;>omega)):p:=h
theorem lap{p:Prop}(h:p:=by simp only [List.length_append,List.length_cons,List.length_nil];omega):p:=h
theorem olp{p:Prop}(h:p:=by first|omega|(simp only [List.length_append,List.length_cons,List.length_nil];omega)):p:=h
theorem olr{p:Prop}(h:p:=by first|omega|(simp only [List.length_replicate];omega)):p:=h
end Go.Sl
namespace Go.Sl
open Go.Proofs
theorem ty2:tyF prog 2=some (1,false,8,[e7 (0)]):=by kernel_rfl
theorem ef:tyF prog 3=some (1,false,8,[e7 (0)]):=by kernel_rfl
theorem ty4:tyF prog 4=some (1,false,1,[.bool false]):=by kernel_rfl
theorem ty5:tyF prog 5=some (1,false,1,[.int .u8 (0)]):=by kernel_rfl
theorem ty22:tyF prog 22=some (1,false,24,[.slice none 0 0]):=by kernel_rfl
theorem ty28:tyF prog 28=some (1,false,24,[.slice none 0 0]):=by kernel_rfl
theorem ty31:tyF prog 31=some (3,true,24,[e7 (0),e7 (0),e7 (0)]):=by kernel_rfl
theorem fld31_0:fldF prog 31 0=some 0:=by kernel_rfl
theorem fld31_1:fldF prog 31 1=some 1:=by kernel_rfl
theorem fld31_2:fldF prog 31 2=some 2:=by kernel_rfl
theorem pl31(w:World):(placesRun prog 31).run prog w = .ok #[(0,1),(1,1),(2,1)] w:=by kernel_rfl
theorem ty36:tyF prog 36=some (1,false,8,[e7 (0)]):=by kernel_rfl
theorem ty40:tyF prog 40=some (2,true,16,[e7 (0),e7 (0)]):=by kernel_rfl
theorem fld40_0:fldF prog 40 0=some 0:=by kernel_rfl
theorem fld40_1:fldF prog 40 1=some 1:=by kernel_rfl
theorem pl40(w:World):(placesRun prog 40).run prog w = .ok #[(0,1),(1,1)] w:=by kernel_rfl
theorem ty46:tyF prog 46=some (1,false,24,[.slice none 0 0]):=by kernel_rfl
theorem ty48:tyF prog 48=some (2,true,32,[e7 (0),.slice none 0 0]):=by kernel_rfl
theorem fld48_0:fldF prog 48 0=some 0:=by kernel_rfl
theorem fld48_1:fldF prog 48 1=some 1:=by kernel_rfl
theorem pl48(w:World):(placesRun prog 48).run prog w = .ok #[(0,1),(1,1)] w:=by kernel_rfl
theorem ty64:tyF prog 64=some (2,true,16,[e7 (0),e7 (0)]):=by kernel_rfl
theorem ty65:tyF prog 65=some (1,false,24,[.slice none 0 0]):=by kernel_rfl
theorem ty71:tyF prog 71=some (7,true,72,[e7 (0),e7 (0),e7 (0),e7 (0),.slice none 0 0,e7 (0),e7 (0)]):=by kernel_rfl
theorem fld71_0:fldF prog 71 0=some 0:=by kernel_rfl
theorem fld71_1:fldF prog 71 1=some 1:=by kernel_rfl
theorem fld71_2:fldF prog 71 2=some 2:=by kernel_rfl
theorem fld71_3:fldF prog 71 3=some 3:=by kernel_rfl
theorem fld71_4:fldF prog 71 4=some 4:=by kernel_rfl
theorem fld71_5:fldF prog 71 5=some 5:=by kernel_rfl
theorem pl71(w:World):(placesRun prog 71).run prog w = .ok #[(0,1),(1,1),(2,1),(3,1),(4,1),(5,2)] w:=by kernel_rfl
theorem ty79:tyF prog 79=some (1,false,24,[.slice none 0 0]):=by kernel_rfl
theorem ty81:tyF prog 81=some (1,false,24,[.slice none 0 0]):=by kernel_rfl
theorem ty88:tyF prog 88=some (2,true,32,[e7 (0),.slice none 0 0]):=by kernel_rfl
theorem pl88(w:World):(placesRun prog 88).run prog w = .ok #[(0,1),(1,1)] w:=by kernel_rfl
theorem ty90:tyF prog 90=some (11,true,168,[.bool false,e7 (0),e7 (0),.slice none 0 0,e7 (0),e7 (0),.slice none 0 0,.slice none 0 0,.slice none 0 0,e7 (0),.slice none 0 0]):=by kernel_rfl
theorem fld90_0:fldF prog 90 0=some 0:=by kernel_rfl
theorem fld90_1:fldF prog 90 1=some 1:=by kernel_rfl
theorem fld90_2:fldF prog 90 2=some 2:=by kernel_rfl
theorem fld90_3:fldF prog 90 3=some 3:=by kernel_rfl
theorem fld90_4:fldF prog 90 4=some 4:=by kernel_rfl
theorem fld90_5:fldF prog 90 5=some 6:=by kernel_rfl
theorem fld90_6:fldF prog 90 6=some 7:=by kernel_rfl
theorem fld90_7:fldF prog 90 7=some 8:=by kernel_rfl
theorem fld90_8:fldF prog 90 8=some 9:=by kernel_rfl
theorem pl90(w:World):(placesRun prog 90).run prog w = .ok #[(0,1),(1,1),(2,1),(3,1),(4,2),(6,1),(7,1),(8,1),(9,2)] w:=by kernel_rfl
theorem ty102:tyF prog 102=some (5,true,72,[.slice none 0 0,e7 (0),e7 (0),e7 (0),.slice none 0 0]):=by kernel_rfl
theorem fld102_0:fldF prog 102 0=some 0:=by kernel_rfl
theorem fld102_1:fldF prog 102 1=some 1:=by kernel_rfl
theorem fld102_2:fldF prog 102 2=some 3:=by kernel_rfl
theorem pl102(w:World):(placesRun prog 102).run prog w = .ok #[(0,1),(1,2),(3,2)] w:=by kernel_rfl
theorem ty108:tyF prog 108=some (7,true,56,[e7 (0),e7 (0),e7 (0),e7 (0),e7 (0),e7 (0),e7 (0)]):=by kernel_rfl
theorem fld108_0:fldF prog 108 0=some 0:=by kernel_rfl
theorem fld108_1:fldF prog 108 1=some 1:=by kernel_rfl
theorem fld108_2:fldF prog 108 2=some 2:=by kernel_rfl
theorem fld108_3:fldF prog 108 3=some 3:=by kernel_rfl
theorem fld108_4:fldF prog 108 4=some 4:=by kernel_rfl
theorem fld108_5:fldF prog 108 5=some 5:=by kernel_rfl
theorem fld108_6:fldF prog 108 6=some 6:=by kernel_rfl
theorem pl108(w:World):(placesRun prog 108).run prog w = .ok #[(0,1),(1,1),(2,1),(3,1),(4,1),(5,1),(6,1)] w:=by kernel_rfl
theorem ty109:tyF prog 109=some (1,false,24,[.slice none 0 0]):=by kernel_rfl
theorem ty111:tyF prog 111=some (2,true,32,[e7 (0),.slice none 0 0]):=by kernel_rfl
theorem fld111_0:fldF prog 111 0=some 0:=by kernel_rfl
theorem fld111_1:fldF prog 111 1=some 1:=by kernel_rfl
theorem pl111(w:World):(placesRun prog 111).run prog w = .ok #[(0,1),(1,1)] w:=by kernel_rfl
theorem ty117:tyF prog 117=some (2,true,16,[e7 (0),e7 (0)]):=by kernel_rfl
theorem fld117_1:fldF prog 117 1=some 1:=by kernel_rfl
theorem pl117(w:World):(placesRun prog 117).run prog w = .ok #[(0,1),(1,1)] w:=by kernel_rfl
theorem ty125:tyF prog 125=some (2,true,32,[.slice none 0 0,e7 (0)]):=by kernel_rfl
theorem fld125_0:fldF prog 125 0=some 0:=by kernel_rfl
theorem fld125_1:fldF prog 125 1=some 1:=by kernel_rfl
theorem pl125(w:World):(placesRun prog 125).run prog w = .ok #[(0,1),(1,1)] w:=by kernel_rfl
end Go.Sl
namespace Go.Sl
open Go.Proofs
theorem ty135:tyF prog 135=some (2,true,16,[e7 (0),e7 (0)]):=by kernel_rfl
theorem fld135_0:fldF prog 135 0=some 0:=by kernel_rfl
theorem fld135_1:fldF prog 135 1=some 1:=by kernel_rfl
theorem pl135(w:World):(placesRun prog 135).run prog w = .ok #[(0,1),(1,1)] w:=by kernel_rfl
theorem ty146:tyF prog 146=some (6,true,48,[e7 (0),e7 (0),e7 (0),e7 (0),e7 (0),e7 (0)]):=by kernel_rfl
theorem fld146_0:fldF prog 146 0=some 0:=by kernel_rfl
theorem fld146_1:fldF prog 146 1=some 1:=by kernel_rfl
theorem fld146_2:fldF prog 146 2=some 2:=by kernel_rfl
theorem fld146_3:fldF prog 146 3=some 3:=by kernel_rfl
theorem fld146_4:fldF prog 146 4=some 4:=by kernel_rfl
theorem fld146_5:fldF prog 146 5=some 5:=by kernel_rfl
theorem pl146(w:World):(placesRun prog 146).run prog w = .ok #[(0,1),(1,1),(2,1),(3,1),(4,1),(5,1)] w:=by kernel_rfl
theorem ty153:tyF prog 153=some (2,true,16,[e7 (0),.bool false]):=by kernel_rfl
theorem fld153_0:fldF prog 153 0=some 0:=by kernel_rfl
theorem fld153_1:fldF prog 153 1=some 1:=by kernel_rfl
theorem pl153(w:World):(placesRun prog 153).run prog w = .ok #[(0,1),(1,1)] w:=by kernel_rfl
theorem ty163:tyF prog 163=some (5,true,56,[e7 (0),.slice none 0 0,e7 (0),e7 (0),e7 (0)]):=by kernel_rfl
theorem fld163_0:fldF prog 163 0=some 0:=by kernel_rfl
theorem fld163_1:fldF prog 163 1=some 1:=by kernel_rfl
theorem fld163_2:fldF prog 163 2=some 2:=by kernel_rfl
theorem pl163(w:World):(placesRun prog 163).run prog w = .ok #[(0,1),(1,1),(2,3)] w:=by kernel_rfl
theorem ty175:tyF prog 175=some (1,false,8,[.int .u64 (0)]):=by kernel_rfl
theorem ty208:tyF prog 208=some (2,true,32,[.int .u64 (0),.slice none 0 0]):=by kernel_rfl
theorem fld208_0:fldF prog 208 0=some 0:=by kernel_rfl
theorem fld208_1:fldF prog 208 1=some 1:=by kernel_rfl
theorem pl208(w:World):(placesRun prog 208).run prog w = .ok #[(0,1),(1,1)] w:=by kernel_rfl
theorem ty211:tyF prog 211=some (6,true,112,[.slice none 0 0,.slice none 0 0,.slice none 0 0,.slice none 0 0,.int .u64 (0),.int .u64 (0)]):=by kernel_rfl
theorem fld211_0:fldF prog 211 0=some 0:=by kernel_rfl
theorem fld211_1:fldF prog 211 1=some 1:=by kernel_rfl
theorem fld211_2:fldF prog 211 2=some 2:=by kernel_rfl
theorem fld211_3:fldF prog 211 3=some 3:=by kernel_rfl
theorem fld211_4:fldF prog 211 4=some 4:=by kernel_rfl
theorem fld211_5:fldF prog 211 5=some 5:=by kernel_rfl
theorem pl211(w:World):(placesRun prog 211).run prog w = .ok #[(0,1),(1,1),(2,1),(3,1),(4,1),(5,1)] w:=by kernel_rfl
theorem ty220:tyF prog 220=some (5,true,5,[.bool false,.bool false,.bool false,.bool false,.bool false]):=by kernel_rfl
theorem fld220_0:fldF prog 220 0=some 0:=by kernel_rfl
theorem fld220_1:fldF prog 220 1=some 1:=by kernel_rfl
theorem fld220_2:fldF prog 220 2=some 2:=by kernel_rfl
theorem fld220_3:fldF prog 220 3=some 3:=by kernel_rfl
theorem fld220_4:fldF prog 220 4=some 4:=by kernel_rfl
theorem pl220(w:World):(placesRun prog 220).run prog w = .ok #[(0,1),(1,1),(2,1),(3,1),(4,1)] w:=by kernel_rfl
theorem ty228:tyF prog 228=some (1,false,24,[.slice none 0 0]):=by kernel_rfl
theorem ty241:tyF prog 241=some (3,true,56,[e7 (0),.slice none 0 0,.slice none 0 0]):=by kernel_rfl
theorem fld241_0:fldF prog 241 0=some 0:=by kernel_rfl
theorem fld241_1:fldF prog 241 1=some 2:=by kernel_rfl
theorem pl241(w:World):(placesRun prog 241).run prog w = .ok #[(0,2),(2,1)] w:=by kernel_rfl
theorem ty264:tyF prog 264=some (64,true,512,[.int .u64 (0),.int .u64 (0),.int .u64 (0),.int .u64 (0),.int .u64 (0),.int .u64 (0),.int .u64 (0),.int .u64 (0),.int .u64 (0),.int .u64 (0),.int .u64 (0),.int .u64 (0),.int .u64 (0),.int .u64 (0),.int .u64 (0),.int .u64 (0),.int .u64 (0),.int .u64 (0),.int .u64 (0),.int .u64 (0),.int .u64 (0),.int .u64 (0),.int .u64 (0),.int .u64 (0),.int .u64 (0),.int .u64 (0),.int .u64 (0),.int .u64 (0),.int .u64 (0),.int .u64 (0),.int .u64 (0),.int .u64 (0),.int .u64 (0),.int .u64 (0),.int .u64 (0),.int .u64 (0),.int .u64 (0),.int .u64 (0),.int .u64 (0),.int .u64 (0),.int .u64 (0),.int .u64 (0),.int .u64 (0),.int .u64 (0),.int .u64 (0),.int .u64 (0),.int .u64 (0),.int .u64 (0),.int .u64 (0),.int .u64 (0),.int .u64 (0),.int .u64 (0),.int .u64 (0),.int .u64 (0),.int .u64 (0),.int .u64 (0),.int .u64 (0),.int .u64 (0),.int .u64 (0),.int .u64 (0),.int .u64 (0),.int .u64 (0),.int .u64 (0),.int .u64 (0)]):=by kernel_rfl
end Go.Sl
