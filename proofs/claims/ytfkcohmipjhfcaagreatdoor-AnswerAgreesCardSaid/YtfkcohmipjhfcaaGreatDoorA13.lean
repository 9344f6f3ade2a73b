/- A part of the proofs of statements of this seat: contracts of functions, and the plain laws that they lean on. No conditions. -/
import Derived.Test.YtfkcohmipjhfcaaGreatDoorA12
set_option linter.unusedVariables false
set_option linter.unusedSimpArgs false
set_option linter.unusedSectionVars false
namespace Go.Sl
open Go.Proofs
set_option maxRecDepth 4000
variable {κ:Ctx}{I:List Item}
def rowsI(rs:List Row):List Item:=rs.map fun r=>vc 3 (.slice r.a r.xs.length r.c) r.xs
theorem Fit.nilrows:∀N:Nat,Fit κ I (rowsI (List.replicate N (default:Row))++I)
 |0=>Fit.refl _
 |N+1=>Cm (Fit.nilrows N) (B3 _ _)
theorem At.rows{I:List Item}{ad:Option Addr}{c:Nat}{xs:List Int}:∀{rs:List Row} {i:Int},0≤i→i<rs.length→
  At (rowsI rs++I) (vc 3 (.slice (at_ rs i).a (at_ rs i).xs.length (at_ rs i).c) (at_ rs i).xs) (vc 3 (.slice ad xs.length c) xs) (rowsI (List.set rs i.toNat ⟨ad,c,xs⟩)++I):=fun {rs} {i} h0 h=>by
 obtain ⟨k,rfl⟩:∃k:Nat,i=(k:Int):=⟨i.toNat,by omega⟩
 rw [Int.toNat_natCast]
 clear h0
 induction rs generalizing k with
 |nil=>simp at h;omega
 |cons r rs ih=>
  cases k with
  |zero=>exact At.head _ _ _
  |succ k=>exact At.tail _ (ih k (by simp at h;omega))
theorem rowsI_mem{I:List Item}{rs:List Row}{i:Int}(h0:0≤i)(h:i<rs.length):vc 3 (.slice (at_ rs i).a (at_ rs i).xs.length (at_ rs i).c) (at_ rs i).xs∈rowsI rs++I:=(At.rows (ad:=none) (c:=0) (xs:=[]) h0 h).mem
theorem rowsI_sl{rs:List Row}(i:Int)(h0:0≤i)(h:i<rs.length):Sl κ (rowsI rs++I) (.slice (at_ rs i).a (at_ rs i).xs.length (at_ rs i).c) (at_ rs i).xs:=Sl.vec (rowsI_mem h0 h)
structure OI (n:Net) (rs:List Row) (hs:List Half) (k:Nat):Prop where
 len:(rs.length:Int)=n.nodes
 hlen:hs.length=2*k
 get:∀i:Int,0≤i→i<2*k→(at_ hs i).frm=fromH n i∧(at_ hs i).dst=toH n i∧(at_ hs i).left=if i % 2=0 then (at_ n.arcs (i / 2)).cap else 0
 all:∀v,0≤v→v<n.nodes→∀i∈(at_ rs v).xs,(0≤i∧i<2*k)∧fromH n i=v
 has:∀i:Int,0≤i→i<2*k→i∈(at_ rs (fromH n i)).xs
 bnd:∀v,0≤v→v<n.nodes→(at_ rs v).xs.length≤2*k
theorem OI.start{n:Net}(hok:n.Ok):OI n (List.replicate n.nodes.toNat (default:Row)) [] 0:=by
 have:=hok.two
 have h:∀v,0≤v→v<n.nodes→at_ (List.replicate n.nodes.toNat (default:Row)) v=default:=fun v a b=>at_rep _ _ _ a om
 exact ⟨by rw [List.length_replicate];omega,rfl,fun i a b=>by omega,fun v a b i hi=>(by rw [h v a b] at hi;cases hi),fun i a b=>om,fun v a b=>(by rw [h v a b];exact Nat.zero_le _)⟩
theorem OI.step{n:Net}(hok:n.Ok){rs:List Row}{hs:List Half}{k:Nat}(h:OI n rs hs k)(hk:k<n.arcs.length)(a1 a2:Option Addr)(c1 c2:Nat){x y u w:Int}(hx:x=2*k)(hy:y=2*k+1)(hu:u=(at_ n.arcs (k:Int)).frm)(hw:w=(at_ n.arcs (k:Int)).dst) :
  OI n (List.set (List.set rs u.toNat ⟨a1,c1,(at_ rs u).xs++[x]⟩) w.toNat ⟨a2,c2,(at_ (List.set rs u.toNat ⟨a1,c1,(at_ rs u).xs++[x]⟩) w).xs++[y]⟩)
   (hs++[⟨u,w,(at_ n.arcs (k:Int)).cap,(at_ n.arcs (k:Int)).cap⟩,⟨w,u,0,0⟩]) (k+1):=by
 have ha:=arc_at hok hk
 subst hx hy hu hw
 have hlen:=h.len
 have hl2:=h.hlen
 generalize hA:at_ n.arcs (k:Int)=A at *
 have f0:fromH n (2*(k:Int))=A.frm:=by unfold fromH;rw [if_pos om,show (2*(k:Int)) / 2=k from by omega,hA]
 have f1:fromH n (2*(k:Int)+1)=A.dst:=by unfold fromH;rw [if_neg om,show (2*(k:Int)+1) / 2=k from by omega,hA]
 have t0:toH n (2*(k:Int))=A.dst:=by unfold toH;rw [if_pos om,show (2*(k:Int)) / 2=k from by omega,hA]
 have t1:toH n (2*(k:Int)+1)=A.frm:=by unfold toH;rw [if_neg om,show (2*(k:Int)+1) / 2=k from by omega,hA]
 have e1:at_ (List.set rs A.frm.toNat ⟨a1,c1,(at_ rs A.frm).xs++[2*(k:Int)]⟩) A.dst=at_ rs A.dst:=by rw [Dc rs _ _ _ ha.1.1 ha.2.1.1 om,if_neg ha.2.2.1]
 have hat:∀v,0≤v→v<n.nodes→(at_ (List.set (List.set rs A.frm.toNat ⟨a1,c1,(at_ rs A.frm).xs++[2*(k:Int)]⟩) A.dst.toNat ⟨a2,c2,(at_ (List.set rs A.frm.toNat ⟨a1,c1,(at_ rs A.frm).xs++[2*(k:Int)]⟩) A.dst).xs++[2*(k:Int)+1]⟩) v).xs =
   (at_ rs v).xs++(if A.dst=v then [2*(k:Int)+1] else if A.frm=v then [2*(k:Int)] else []):=fun v h0 h1=>by
  rw [Dc _ _ _ _ ha.2.1.1 h0 (by rw [List.length_set];omega),e1,Dc rs _ _ _ ha.1.1 h0 om]
  by_cases d1:A.dst=v
  ·rw [if_pos d1,if_pos d1,d1]
  ·rw [if_neg d1,if_neg d1]
   by_cases d2:A.frm=v
   ·rw [if_pos d2,if_pos d2,d2]
   ·rw [if_neg d2,if_neg d2,List.append_nil]
 refine ⟨by simp;exact hlen,by simp;omega,fun i h0 h1=>?_,fun v h0 h1 i hi=>?_,fun i h0 h1=>?_,fun v h0 h1=>?_⟩
 ·by_cases hi:i<2*k
  ·have:=h.get i h0 hi
   have e:at_ (hs++[⟨A.frm,A.dst,A.cap,A.cap⟩,⟨A.dst,A.frm,0,0⟩]) i=at_ hs i:=by
    have:=D7 hs [⟨A.frm,A.dst,A.cap,A.cap⟩,⟨A.dst,A.frm,0,0⟩] i.toNat om
    rwa [show ((i.toNat:Nat):Int)=i from by omega] at this
   rw [e];exact this
  ·have hcase:i=2*(k:Int)∨i=2*(k:Int)+1:=by omega
   rcases hcase with rfl|rfl
   ·have e:at_ (hs++[⟨A.frm,A.dst,A.cap,A.cap⟩,⟨A.dst,A.frm,0,0⟩]) (2*(k:Int))=⟨A.frm,A.dst,A.cap,A.cap⟩:=by
     unfold at_
     rw [show (2*(k:Int)).toNat=hs.length+0 from by omega,List.getD_eq_getElem?_getD,List.getElem?_append_right om,Nat.add_sub_cancel_left];rfl
    rw [e,f0,t0,if_pos om,show (2*(k:Int)) / 2=k from by omega,hA];exact ⟨rfl,rfl,rfl⟩
   ·have e:at_ (hs++[⟨A.frm,A.dst,A.cap,A.cap⟩,⟨A.dst,A.frm,0,0⟩]) (2*(k:Int)+1)=⟨A.dst,A.frm,0,0⟩:=by
     unfold at_
     rw [show (2*(k:Int)+1).toNat=hs.length+1 from by omega,List.getD_eq_getElem?_getD,List.getElem?_append_right om,Nat.add_sub_cancel_left];rfl
    rw [e,f1,t1,if_neg om];exact ⟨rfl,rfl,rfl⟩
 ·rw [hat v h0 h1] at hi
  rcases List.mem_append.1 hi with hi|hi
  ·have:=h.all v h0 h1 i hi
   exact ⟨by omega,this.2⟩
  ·by_cases d1:A.dst=v
   ·rw [if_pos d1] at hi
    rw [List.mem_singleton.1 hi];exact ⟨by omega,f1.trans d1⟩
   ·rw [if_neg d1] at hi
    by_cases d2:A.frm=v
    ·rw [if_pos d2] at hi
     rw [List.mem_singleton.1 hi];exact ⟨by omega,f0.trans d2⟩
    ·rw [if_neg d2] at hi;cases hi
 ·by_cases hi:i<2*k
  ·have:=h.has i h0 hi
   have hfr:=arc_at hok (k:=(i / 2).toNat) om
   rw [show (((i / 2).toNat:Nat):Int)=i / 2 from by omega] at hfr
   rw [hat _ (by unfold fromH;split<;>omega) (by unfold fromH;split<;>omega)]
   exact List.mem_append_left _ this
  ·have hcase:i=2*(k:Int)∨i=2*(k:Int)+1:=by omega
   rcases hcase with rfl|rfl
   ·rw [f0,hat _ ha.1.1 ha.1.2,if_neg (fun e=>ha.2.2.1 e.symm),if_pos rfl];exact List.mem_append_right _ (List.mem_singleton.2 rfl)
   ·rw [f1,hat _ ha.2.1.1 ha.2.1.2,if_pos rfl];exact List.mem_append_right _ (List.mem_singleton.2 rfl)
 ·rw [hat v h0 h1,List.length_append]
  have:=h.bnd v h0 h1
  split
  ·simp only [List.length_cons,List.length_nil];omega
  ·split<;>simp only [List.length_cons,List.length_nil]<;>omega
theorem OI.done{n:Net}(hok:n.Ok){rs:List Row}{hs:List Half}{k:Nat}(h:OI n rs hs k)(hk:k=n.arcs.length):HOk n (List.replicate n.arcs.length (0:Int)) hs∧ROk n (rowsL rs):=by
 subst hk
 have hz:=flow_zero n hok
 have h0:∀j:Int,0≤j→j<n.arcs.length→at_ (List.replicate n.arcs.length (0:Int)) j=0:=fun j a b=>at_rep _ _ _ a b
 refine ⟨⟨by have:=h.hlen;omega,by simp,hz.1.cap,fun i hi=>?_⟩,⟨by unfold rowsL;rw [List.length_map];exact h.len,fun v a b i hi=>by rw [rowsL_at] at hi;exact h.all v a b i hi,fun i hi=>by rw [rowsL_at];exact h.has i hi.1 hi.2⟩⟩
 have h1:=hi.half
 have:=h.get i hi.1 hi.2
 refine ⟨this.1,this.2.1,this.2.2.trans ?_⟩
 unfold leftH
 rw [h0 _ h1.1 h1.2]
 split<;>omega
set_option maxHeartbeats 4000000 in
theorem Open_ok{n:Net}{v:Value}(hl:Sl κ I v n.arcs)(hok:n.Ok) :
    CallS Tryz.prog κ 335 [.agg #[I64 (n.nodes),I64 (n.source),I64 (n.sink),v]] I (fun r J=>∃(b:Nat) (hw ow lw nw:Value) (hs:List Half) (rs:List Row) (L nx:List Int),r = .pointer (some ⟨b,0,none⟩)∧(HOk n (List.replicate n.arcs.length (0:Int)) hs∧ROk n (rowsL rs)∧(L.length:Int)=n.nodes∧(nx.length:Int)=n.nodes)∧J=blk b [hw,ow,lw,nw,I64 (n.sink)] 339::vc 336 (hw) (hs)::vc 3 (lw) (L)::vc 3 (nw) (nx)::(vc 22 ow rs::(rowsI rs++I))):=by
 refine Cn (J:=(rowsI (List.replicate n.nodes.toNat (default:Row))++I)) (Fit.nilrows _) ?_
 have hl2:=hl
 have hlim:=hok.lim
 have htwo:=hok.two
 have hsrc:=hok.src
 have hsnk:=hok.snk
 refine Ce1 Tryz.func335 rfl rfl ?_
 refine Ah (Ge1 (Bb (cs:=[_,_,_,_]) rfl rfl rfl) fun b1=>Ga rfl (Af (W.cut (σ:=Nat×(Option Addr)×Nat×(Option Addr)×Nat×(Option Addr)×Nat) (fun s=>([(1,.pointer (some ⟨b1,0,none⟩)),(3,.pointer (some ⟨s.1,0,none⟩))]:Env)) (fun s=>blk s.1 [.slice none 0 0,.slice s.2.1 (List.replicate n.nodes.toNat (default:Row)).length s.2.2.1,.slice s.2.2.2.1 (List.replicate n.nodes.toNat (default:Int)).length s.2.2.2.2.1,.slice s.2.2.2.2.2.1 (List.replicate n.nodes.toNat (default:Int)).length s.2.2.2.2.2.2,I64 (n.sink)] 339::vc 22 (.slice s.2.1 (List.replicate n.nodes.toNat (default:Row)).length s.2.2.1) (List.replicate n.nodes.toNat (default:Row))::vc 3 (.slice s.2.2.2.1 (List.replicate n.nodes.toNat (default:Int)).length s.2.2.2.2.1) (List.replicate n.nodes.toNat (default:Int))::vc 3 (.slice s.2.2.2.2.2.1 (List.replicate n.nodes.toNat (default:Int)).length s.2.2.2.2.2.2) (List.replicate n.nodes.toNat (default:Int))::blk b1 [I64 (n.nodes),I64 (n.source),I64 (n.sink),v] 303::(rowsI (List.replicate n.nodes.toNat (default:Row))++I)) (fun s=>True) ?_ ?_)))
 ·refine Bo mixed (Bu (blk b1 [I64 (n.nodes),I64 (n.source),I64 (n.sink),v] 303::(rowsI (List.replicate n.nodes.toNat (default:Row))++I)) 14 (Dr 0 rfl (Aa fld303_0 rfl) (Dr 1 rfl (Au ty3) ?_)))
  refine Dr 3 rfl (Aa fld303_0 rfl) (Dr 4 rfl (Au ty3) ?_)
  refine Dr 6 rfl (Aa fld303_0 rfl) (Dr 7 rfl (Au ty3) ?_)
  refine Dr 9 rfl (Aa fld303_2 rfl) (Dr 10 rfl (Au ty3) ?_)
  refine De (rs:=[2,5,8]) kr rfl rfl (Eb ?_ (Eb ?_ (Du ?_)))
  ·refine Se2 rfl (Cp (α:=Row) (n:=n.nodes.toNat) Bp ty22 rfl rfl rfl om om dc rfl) fun ad2 cp3=>?_
   refine De (rs:=[5,8]) kr rfl rfl (Eb ?_ (Du ?_))
   ·refine Se2 rfl (Cp (α:=Int) (n:=n.nodes.toNat) Ab ty3 rfl rfl rfl om om dc rfl) fun ad4 cp5=>?_
    refine Ds1 8 (Se2 rfl (Cp (α:=Int) (n:=n.nodes.toNat) Ab ty3 rfl rfl rfl om om dc rfl) fun ad6 cp7=>?_)
    refine Dr 11 rfl (Be (cells:=[_,_,_,_,_]) ty339 Dj pl339 rfl rfl) (Ds1 12 (Se1 rfl (Bb (cs:=[_,_,_,_,_]) rfl rfl rfl) fun b8=>?_))
    exact Dr 13 rfl (Bd rfl) (Dz (Ep ((b8),(ad2),(cp3),(ad4),(cp5),(ad6),(cp7)) trivial))
   ·refine Se2 rfl (Cp (α:=Int) (n:=n.nodes.toNat) Ab ty3 rfl rfl rfl om om dc rfl) fun ad9 cp10=>?_
    refine Ds1 5 (Se2 rfl (Cp (α:=Int) (n:=n.nodes.toNat) Ab ty3 rfl rfl rfl om om dc rfl) fun ad11 cp12=>?_)
    refine Dr 11 rfl (Be (cells:=[_,_,_,_,_]) ty339 Dj pl339 rfl rfl) (Ds1 12 (Se1 rfl (Bb (cs:=[_,_,_,_,_]) rfl rfl rfl) fun b13=>?_))
    exact Dr 13 rfl (Bd rfl) (Dz (Ep ((b13),(ad2),(cp3),(ad11),(cp12),(ad9),(cp10)) trivial))
  ·refine Se2 rfl (Cp (α:=Int) (n:=n.nodes.toNat) Ab ty3 rfl rfl rfl om om dc rfl) fun ad14 cp15=>?_
   refine De (rs:=[2,8]) kr rfl rfl (Eb ?_ (Du ?_))
   ·refine Se2 rfl (Cp (α:=Row) (n:=n.nodes.toNat) Bp ty22 rfl rfl rfl om om dc rfl) fun ad16 cp17=>?_
    refine Ds1 8 (Se2 rfl (Cp (α:=Int) (n:=n.nodes.toNat) Ab ty3 rfl rfl rfl om om dc rfl) fun ad18 cp19=>?_)
    refine Dr 11 rfl (Be (cells:=[_,_,_,_,_]) ty339 Dj pl339 rfl rfl) (Ds1 12 (Se1 rfl (Bb (cs:=[_,_,_,_,_]) rfl rfl rfl) fun b20=>?_))
    exact Dr 13 rfl (Bd rfl) (Dz (Ep ((b20),(ad16),(cp17),(ad14),(cp15),(ad18),(cp19)) trivial))
   ·refine Se2 rfl (Cp (α:=Int) (n:=n.nodes.toNat) Ab ty3 rfl rfl rfl om om dc rfl) fun ad21 cp22=>?_
    refine Ds1 2 (Se2 rfl (Cp (α:=Row) (n:=n.nodes.toNat) Bp ty22 rfl rfl rfl om om dc rfl) fun ad23 cp24=>?_)
    refine Dr 11 rfl (Be (cells:=[_,_,_,_,_]) ty339 Dj pl339 rfl rfl) (Ds1 12 (Se1 rfl (Bb (cs:=[_,_,_,_,_]) rfl rfl rfl) fun b25=>?_))
    exact Dr 13 rfl (Bd rfl) (Dz (Ep ((b25),(ad23),(cp24),(ad14),(cp15),(ad21),(cp22)) trivial))
  ·refine Se2 rfl (Cp (α:=Int) (n:=n.nodes.toNat) Ab ty3 rfl rfl rfl om om dc rfl) fun ad26 cp27=>?_
   refine De (rs:=[2,5]) kr rfl rfl (Eb ?_ (Du ?_))
   ·refine Se2 rfl (Cp (α:=Row) (n:=n.nodes.toNat) Bp ty22 rfl rfl rfl om om dc rfl) fun ad28 cp29=>?_
    refine Ds1 5 (Se2 rfl (Cp (α:=Int) (n:=n.nodes.toNat) Ab ty3 rfl rfl rfl om om dc rfl) fun ad30 cp31=>?_)
    refine Dr 11 rfl (Be (cells:=[_,_,_,_,_]) ty339 Dj pl339 rfl rfl) (Ds1 12 (Se1 rfl (Bb (cs:=[_,_,_,_,_]) rfl rfl rfl) fun b32=>?_))
    exact Dr 13 rfl (Bd rfl) (Dz (Ep ((b32),(ad28),(cp29),(ad30),(cp31),(ad26),(cp27)) trivial))
   ·refine Se2 rfl (Cp (α:=Int) (n:=n.nodes.toNat) Ab ty3 rfl rfl rfl om om dc rfl) fun ad33 cp34=>?_
    refine Ds1 2 (Se2 rfl (Cp (α:=Row) (n:=n.nodes.toNat) Bp ty22 rfl rfl rfl om om dc rfl) fun ad35 cp36=>?_)
    refine Dr 11 rfl (Be (cells:=[_,_,_,_,_]) ty339 Dj pl339 rfl rfl) (Ds1 12 (Se1 rfl (Bb (cs:=[_,_,_,_,_]) rfl rfl rfl) fun b37=>?_))
    exact Dr 13 rfl (Bd rfl) (Dz (Ep ((b37),(ad35),(cp36),(ad33),(cp34),(ad26),(cp27)) trivial))
 ·rintro ⟨b,ao,co,al,cl,an,cn⟩ hp
  show W Tryz.prog κ 92 _ _ ([(1,.pointer (some ⟨b1,0,none⟩)),(3,.pointer (some ⟨b,0,none⟩))]:Env) (blk b [.slice none 0 0,.slice ao (List.replicate n.nodes.toNat (default:Row)).length co,.slice al (List.replicate n.nodes.toNat (default:Int)).length cl,.slice an (List.replicate n.nodes.toNat (default:Int)).length cn,I64 (n.sink)] 339::vc 22 (.slice ao (List.replicate n.nodes.toNat (default:Row)).length co) (List.replicate n.nodes.toNat (default:Row))::vc 3 (.slice al (List.replicate n.nodes.toNat (default:Int)).length cl) (List.replicate n.nodes.toNat (default:Int))::vc 3 (.slice an (List.replicate n.nodes.toNat (default:Int)).length cn) (List.replicate n.nodes.toNat (default:Int))::blk b1 [I64 (n.nodes),I64 (n.source),I64 (n.sink),v] 303::(rowsI (List.replicate n.nodes.toNat (default:Row))++I))
  refine Ao (Ah (Gf fld303_3 rfl (Gl ty301 ?_)))
  refine Gr (Bz (α:=Arc) (xs:=n.arcs) Df rfl (Bf hl)) (Gm rfl (Af (Ax (Bx (σ:=Nat×(Option Addr)×Nat×(List Half)×(List Row)) (fun s=>([(3,.pointer (some ⟨b,0,none⟩)),(20,v),(21,I64 (((n.arcs.length:Nat):Int))),(22,I64 (((s.1:Nat):Int)))]:Env)) (fun s=>vc 336 (.slice s.2.1 s.2.2.2.1.length s.2.2.1) (s.2.2.2.1)::blk b [.slice s.2.1 s.2.2.2.1.length s.2.2.1,.slice ao (List.replicate n.nodes.toNat (default:Row)).length co,.slice al (List.replicate n.nodes.toNat (default:Int)).length cl,.slice an (List.replicate n.nodes.toNat (default:Int)).length cn,I64 (n.sink)] 339::vc 22 (.slice ao (List.replicate n.nodes.toNat (default:Row)).length co) (s.2.2.2.2)::vc 3 (.slice al (List.replicate n.nodes.toNat (default:Int)).length cl) (List.replicate n.nodes.toNat (default:Int))::vc 3 (.slice an (List.replicate n.nodes.toNat (default:Int)).length cn) (List.replicate n.nodes.toNat (default:Int))::blk b1 [I64 (n.nodes),I64 (n.source),I64 (n.sink),v] 303::(rowsI s.2.2.2.2++I)) (fun s=>(s.1≤n.arcs.length)∧(OI n s.2.2.2.2 s.2.2.2.1 s.1)) (fun s=>n.arcs.length - s.1) (0,none,0,[],(List.replicate n.nodes.toNat (default:Row))) (show ((0:Nat)≤n.arcs.length)∧(OI n ((List.replicate n.nodes.toNat (default:Row)):List Row) ([]:List Half) (0:Nat)) from ⟨om,(OI.start hok)⟩) (Ac rfl (Ac rfl (Ac rfl (Ac Cb Bq)))) (show Fit κ _ (vc 336 (.slice (none) ([]).length (0)) (([]))::blk b [.slice (none) ([]).length (0),.slice ao (List.replicate n.nodes.toNat (default:Row)).length co,.slice al (List.replicate n.nodes.toNat (default:Int)).length cl,.slice an (List.replicate n.nodes.toNat (default:Int)).length cn,I64 (n.sink)] 339::vc 22 (.slice ao (List.replicate n.nodes.toNat (default:Row)).length co) (((List.replicate n.nodes.toNat (default:Row))))::vc 3 (.slice al (List.replicate n.nodes.toNat (default:Int)).length cl) (List.replicate n.nodes.toNat (default:Int))::vc 3 (.slice an (List.replicate n.nodes.toNat (default:Int)).length cn) (List.replicate n.nodes.toNat (default:Int))::blk b1 [I64 (n.nodes),I64 (n.source),I64 (n.sink),v] 303::(rowsI ((List.replicate n.nodes.toNat (default:Row)))++I)) from (B3 _ _)) ?_))))
  rintro ⟨k,ah,ch,hs,rs⟩ hp
  dsimp only at hp ⊢
  obtain ⟨hk,hO⟩:=hp
  have hlen:=hO.len
  have hhl:=hO.hlen
  refine Ah (Gr (Bc rfl rfl) (Af (Ao (A9 rfl (fun c23=>?_) (fun c23=>?_)))))
  ·refine A0 (Ai (Ao (Ax (Ah (Gr (A8 (α:=Arc) (xs:=n.arcs) Df ty305 rfl rfl (Bf hl) om om) (Gr (B0 (α:=Arc) (xs:=n.arcs) ty305 rfl (Bf hl) om om) ?_))))))
   have hb:=hok.arc (at_ n.arcs (k:Int)) (Ck om om)
   have hb1:=hO.bnd _ hb.1.1 hb.1.2
   have hb2:=hO.bnd _ hb.2.1.1 hb.2.1.2
   refine Ge1 (A5 ty305 rfl) fun b38=>Ge0 (Es3_3 ty305) ?_
   refine Af (Ao (Bo mixed (Bu (blk b38 [I64 ((at_ n.arcs (k:Int)).frm),I64 ((at_ n.arcs (k:Int)).dst),I64 ((at_ n.arcs (k:Int)).cap)] 305::vc 336 (.slice ah hs.length ch) (hs)::blk b [.slice ah hs.length ch,.slice ao (List.replicate n.nodes.toNat (default:Row)).length co,.slice al (List.replicate n.nodes.toNat (default:Int)).length cl,.slice an (List.replicate n.nodes.toNat (default:Int)).length cn,I64 (n.sink)] 339::vc 22 (.slice ao (List.replicate n.nodes.toNat (default:Row)).length co) (rs)::vc 3 (.slice al (List.replicate n.nodes.toNat (default:Int)).length cl) (List.replicate n.nodes.toNat (default:Int))::vc 3 (.slice an (List.replicate n.nodes.toNat (default:Int)).length cn) (List.replicate n.nodes.toNat (default:Int))::blk b1 [I64 (n.nodes),I64 (n.source),I64 (n.sink),v] 303::I) 22 (Dr 0 rfl (Ad rfl) (Dr 1 rfl (Bk rfl) (Dr 2 rfl (Aa fld339_1 rfl) (Dr 3 rfl (Au ty79) ?_)))))))
   refine Dr 4 rfl (Aa fld305_0 rfl) (Dr 5 rfl (Au ty3) ?_)
   refine Dr 6 rfl (Ad rfl) (Dr 7 rfl (Bk rfl) (Dr 8 rfl (Aa fld339_1 rfl) (Dr 9 rfl (Au ty79) ?_)))
   refine Dr 10 rfl (Aa fld305_0 rfl) (Dr 11 rfl (Au ty3) ?_)
   refine Dr 12 rfl (A8 (α:=Row) (xs:=rs) Bp ty22 rfl rfl Br om om) (Dr 13 rfl (Cs (α:=Row) (xs:=rs) (u:= .slice (at_ rs ((at_ n.arcs (k:Int)).frm)).a (at_ rs ((at_ n.arcs (k:Int)).frm)).xs.length (at_ rs ((at_ n.arcs (k:Int)).frm)).c) ty22 rfl Br om om rfl) (Dr 14 rfl (Ad rfl) (Dr 15 rfl (Bk rfl) (Dr 16 rfl (Aa fld339_0 rfl) (Dr 17 rfl (Au ty337) ?_)))))
   refine Dr 18 rfl (Bw Ce rfl) (Ds1 19 (Se1 rfl (B9 (α:=Int) (cs:=[_]) (xs:=[((hs.length:Nat):Int)]) Ab ty3 rfl rfl dc dc rfl rfl rfl rfl) fun ad39=>?_))
   refine Ds1 20 (Se2 rfl (Ca (α:=Int) (e:=3) (xs:=(at_ rs ((at_ n.arcs (k:Int)).frm)).xs) (ys:=([((hs.length:Nat):Int)]:List Int)) Ab ty3 rfl rfl rfl (by repeat (first|exact rowsI_mem (rs:=rs) (i:=((at_ n.arcs (k:Int)).frm)) om om|apply List.mem_cons_of_mem)) Br lcn dc rfl (fun _ _=>(by repeat (first|exact At.rows (rs:=rs) (i:=((at_ n.arcs (k:Int)).frm)) om om|apply At.tail)))) fun ad40 cp41=>?_)
   show D Tryz.prog κ _ _ _ _ _ _ _ ([(46,.slice ad40 ((at_ rs ((at_ n.arcs (k:Int)).frm)).xs++([((hs.length:Nat):Int)]:List Int)).length cp41),(45,.slice ad39 1 1),(44,I64 (((hs.length:Nat):Int))),(43,.slice ah hs.length ch),(42,.pointer (some ⟨b,0,none⟩)),(41,.pointer (some ⟨b,0,none⟩)),(40,.pointer (some ⟨b,0,none⟩)),(39,.slice (at_ rs ((at_ n.arcs (k:Int)).frm)).a (at_ rs ((at_ n.arcs (k:Int)).frm)).xs.length (at_ rs ((at_ n.arcs (k:Int)).frm)).c),(38,elemPtr (.slice ao (List.replicate n.nodes.toNat (default:Row)).length co) (((at_ n.arcs (k:Int)).frm).toNat*Enc.sz Row)),(37,I64 ((at_ n.arcs (k:Int)).frm)),(36,.pointer (some ⟨b38,0,none⟩)),(35,.slice ao (List.replicate n.nodes.toNat (default:Row)).length co),(34,.pointer (some ⟨b,1,none⟩)),(33,.pointer (some ⟨b,0,none⟩)),(32,.pointer (some ⟨b,0,none⟩)),(31,I64 ((at_ n.arcs (k:Int)).frm)),(30,.pointer (some ⟨b38,0,none⟩)),(29,.slice ao (List.replicate n.nodes.toNat (default:Row)).length co),(28,.pointer (some ⟨b,1,none⟩)),(27,.pointer (some ⟨b,0,none⟩)),(26,.pointer (some ⟨b,0,none⟩)),(5,.pointer (some ⟨b38,0,none⟩)),(25,.agg #[I64 ((at_ n.arcs (k:Int)).frm),I64 ((at_ n.arcs (k:Int)).dst),I64 ((at_ n.arcs (k:Int)).cap)]),(24,elemPtr (v) (((k:Int)).toNat*Enc.sz Arc)),(23,.bool (decide ((k:Int)<((n.arcs.length:Nat):Int)))),(3,.pointer (some ⟨b,0,none⟩)),(20,v),(21,I64 (((n.arcs.length:Nat):Int))),(22,I64 ((k:Int)))]:Env) (vc 3 (.slice ad39 1 1) (([((hs.length:Nat):Int)]:List Int))::blk b38 [I64 ((at_ n.arcs (k:Int)).frm),I64 ((at_ n.arcs (k:Int)).dst),I64 ((at_ n.arcs (k:Int)).cap)] 305::vc 336 (.slice ah hs.length ch) (hs)::blk b [.slice ah hs.length ch,.slice ao (List.replicate n.nodes.toNat (default:Row)).length co,.slice al (List.replicate n.nodes.toNat (default:Int)).length cl,.slice an (List.replicate n.nodes.toNat (default:Int)).length cn,I64 (n.sink)] 339::vc 22 (.slice ao (List.replicate n.nodes.toNat (default:Row)).length co) (rs)::vc 3 (.slice al (List.replicate n.nodes.toNat (default:Int)).length cl) (List.replicate n.nodes.toNat (default:Int))::vc 3 (.slice an (List.replicate n.nodes.toNat (default:Int)).length cn) (List.replicate n.nodes.toNat (default:Int))::blk b1 [I64 (n.nodes),I64 (n.source),I64 (n.sink),v] 303::(rowsI (List.set rs ((at_ n.arcs (k:Int)).frm).toNat (⟨ad40,cp41,((at_ rs ((at_ n.arcs (k:Int)).frm)).xs++([((hs.length:Nat):Int)]:List Int))⟩:Row))++I))
   refine Dr 21 rfl (A8 (α:=Row) (xs:=rs) Bp ty22 rfl rfl Br om om) (C4 kr ?_)
   refine Ae 22 rfl (Cy (α:=Row) (xs:=rs) (e:=22) (new:=(⟨ad40,cp41,((at_ rs ((at_ n.arcs (k:Int)).frm)).xs++([((hs.length:Nat):Int)]:List Int))⟩:Row)) ty22 rfl rfl rfl om om am) ?_
   rintro _ _ ⟨rfl,rfl⟩
   have hsl:(List.set rs ((at_ n.arcs (k:Int)).frm).toNat (⟨ad40,cp41,((at_ rs ((at_ n.arcs (k:Int)).frm)).xs++([((hs.length:Nat):Int)]:List Int))⟩:Row)).length=rs.length:=List.length_set
   have hsd:at_ (List.set rs ((at_ n.arcs (k:Int)).frm).toNat (⟨ad40,cp41,((at_ rs ((at_ n.arcs (k:Int)).frm)).xs++([((hs.length:Nat):Int)]:List Int))⟩:Row)) (at_ n.arcs (k:Int)).dst=at_ rs (at_ n.arcs (k:Int)).dst:=by rw [Dc rs _ _ _ hb.1.1 hb.2.1.1 om,if_neg hb.2.2.1]
   have hsx:(at_ (List.set rs ((at_ n.arcs (k:Int)).frm).toNat (⟨ad40,cp41,((at_ rs ((at_ n.arcs (k:Int)).frm)).xs++([((hs.length:Nat):Int)]:List Int))⟩:Row)) (at_ n.arcs (k:Int)).dst).xs.length≤2*k:=by rw [hsd];exact hb2
   refine C5 kr ?_
   refine Ai (As (S5 5 3 20 21 22 rfl rfl rfl rfl rfl) (Ao (Bo mixed (Bu (vc 3 (.slice ad39 1 1) (([((hs.length:Nat):Int)]:List Int))::blk b38 [I64 ((at_ n.arcs (k:Int)).frm),I64 ((at_ n.arcs (k:Int)).dst),I64 ((at_ n.arcs (k:Int)).cap)] 305::vc 336 (.slice ah hs.length ch) (hs)::blk b [.slice ah hs.length ch,.slice ao (List.replicate n.nodes.toNat (default:Row)).length co,.slice al (List.replicate n.nodes.toNat (default:Int)).length cl,.slice an (List.replicate n.nodes.toNat (default:Int)).length cn,I64 (n.sink)] 339::vc 22 (.slice ao (List.replicate n.nodes.toNat (default:Row)).length co) (List.set rs ((at_ n.arcs (k:Int)).frm).toNat (⟨ad40,cp41,((at_ rs ((at_ n.arcs (k:Int)).frm)).xs++([((hs.length:Nat):Int)]:List Int))⟩:Row))::vc 3 (.slice al (List.replicate n.nodes.toNat (default:Int)).length cl) (List.replicate n.nodes.toNat (default:Int))::vc 3 (.slice an (List.replicate n.nodes.toNat (default:Int)).length cn) (List.replicate n.nodes.toNat (default:Int))::blk b1 [I64 (n.nodes),I64 (n.source),I64 (n.sink),v] 303::I) 23 (Dr 0 rfl (Ad rfl) (Dr 1 rfl (Bk rfl) (Dr 2 rfl (Aa fld339_1 rfl) (Dr 3 rfl (Au ty79) ?_))))))))
   refine Dr 4 rfl (Aa fld305_1 rfl) (Dr 5 rfl (Au ty3) ?_)
   refine Dr 6 rfl (Ad rfl) (Dr 7 rfl (Bk rfl) (Dr 8 rfl (Aa fld339_1 rfl) (Dr 9 rfl (Au ty79) ?_)))
   refine Dr 10 rfl (Aa fld305_1 rfl) (Dr 11 rfl (Au ty3) ?_)
   refine Dr 12 rfl (A8 (α:=Row) (xs:=List.set rs ((at_ n.arcs (k:Int)).frm).toNat (⟨ad40,cp41,((at_ rs ((at_ n.arcs (k:Int)).frm)).xs++([((hs.length:Nat):Int)]:List Int))⟩:Row)) Bp ty22 rfl rfl Br om om) (Dr 13 rfl (Cs (α:=Row) (xs:=List.set rs ((at_ n.arcs (k:Int)).frm).toNat (⟨ad40,cp41,((at_ rs ((at_ n.arcs (k:Int)).frm)).xs++([((hs.length:Nat):Int)]:List Int))⟩:Row)) (u:= .slice (at_ (List.set rs ((at_ n.arcs (k:Int)).frm).toNat (⟨ad40,cp41,((at_ rs ((at_ n.arcs (k:Int)).frm)).xs++([((hs.length:Nat):Int)]:List Int))⟩:Row)) ((at_ n.arcs (k:Int)).dst)).a (at_ (List.set rs ((at_ n.arcs (k:Int)).frm).toNat (⟨ad40,cp41,((at_ rs ((at_ n.arcs (k:Int)).frm)).xs++([((hs.length:Nat):Int)]:List Int))⟩:Row)) ((at_ n.arcs (k:Int)).dst)).xs.length (at_ (List.set rs ((at_ n.arcs (k:Int)).frm).toNat (⟨ad40,cp41,((at_ rs ((at_ n.arcs (k:Int)).frm)).xs++([((hs.length:Nat):Int)]:List Int))⟩:Row)) ((at_ n.arcs (k:Int)).dst)).c) ty22 rfl Br om om rfl) (Dr 14 rfl (Ad rfl) (Dr 15 rfl (Bk rfl) (Dr 16 rfl (Aa fld339_0 rfl) (Dr 17 rfl (Au ty337) ?_)))))
   refine Dr 18 rfl (Bw Ce rfl) (Dr 19 rfl (Rad rfl rfl) (Ds1 20 (Se1 rfl (B9 (α:=Int) (cs:=[_]) (xs:=[((hs.length:Nat):Int)+1]) Ab ty3 rfl rfl dc dc rfl rfl rfl rfl) fun ad42=>?_)))
   refine Ds1 21 (Se2 rfl (Ca (α:=Int) (e:=3) (xs:=(at_ (List.set rs ((at_ n.arcs (k:Int)).frm).toNat (⟨ad40,cp41,((at_ rs ((at_ n.arcs (k:Int)).frm)).xs++([((hs.length:Nat):Int)]:List Int))⟩:Row)) ((at_ n.arcs (k:Int)).dst)).xs) (ys:=([((hs.length:Nat):Int)+1]:List Int)) Ab ty3 rfl rfl rfl (by repeat (first|exact rowsI_mem (rs:=(List.set rs ((at_ n.arcs (k:Int)).frm).toNat (⟨ad40,cp41,((at_ rs ((at_ n.arcs (k:Int)).frm)).xs++([((hs.length:Nat):Int)]:List Int))⟩:Row))) (i:=((at_ n.arcs (k:Int)).dst)) om om|apply List.mem_cons_of_mem)) Br lcn dc rfl (fun _ _=>(by repeat (first|exact At.rows (rs:=(List.set rs ((at_ n.arcs (k:Int)).frm).toNat (⟨ad40,cp41,((at_ rs ((at_ n.arcs (k:Int)).frm)).xs++([((hs.length:Nat):Int)]:List Int))⟩:Row))) (i:=((at_ n.arcs (k:Int)).dst)) om om|apply At.tail)))) fun ad43 cp44=>?_)
   show D Tryz.prog κ _ _ _ _ _ _ _ ([(69,.slice ad43 ((at_ (List.set rs ((at_ n.arcs (k:Int)).frm).toNat (⟨ad40,cp41,((at_ rs ((at_ n.arcs (k:Int)).frm)).xs++([((hs.length:Nat):Int)]:List Int))⟩:Row)) ((at_ n.arcs (k:Int)).dst)).xs++([((hs.length:Nat):Int)+1]:List Int)).length cp44),(68,.slice ad42 1 1),(67,I64 (((hs.length:Nat):Int)+1)),(66,I64 (((hs.length:Nat):Int))),(65,.slice ah hs.length ch),(64,.pointer (some ⟨b,0,none⟩)),(63,.pointer (some ⟨b,0,none⟩)),(62,.pointer (some ⟨b,0,none⟩)),(61,.slice (at_ (List.set rs ((at_ n.arcs (k:Int)).frm).toNat (⟨ad40,cp41,((at_ rs ((at_ n.arcs (k:Int)).frm)).xs++([((hs.length:Nat):Int)]:List Int))⟩:Row)) ((at_ n.arcs (k:Int)).dst)).a (at_ (List.set rs ((at_ n.arcs (k:Int)).frm).toNat (⟨ad40,cp41,((at_ rs ((at_ n.arcs (k:Int)).frm)).xs++([((hs.length:Nat):Int)]:List Int))⟩:Row)) ((at_ n.arcs (k:Int)).dst)).xs.length (at_ (List.set rs ((at_ n.arcs (k:Int)).frm).toNat (⟨ad40,cp41,((at_ rs ((at_ n.arcs (k:Int)).frm)).xs++([((hs.length:Nat):Int)]:List Int))⟩:Row)) ((at_ n.arcs (k:Int)).dst)).c),(60,elemPtr (.slice ao (List.replicate n.nodes.toNat (default:Row)).length co) (((at_ n.arcs (k:Int)).dst).toNat*Enc.sz Row)),(59,I64 ((at_ n.arcs (k:Int)).dst)),(58,.pointer (some ⟨b38,1,none⟩)),(57,.slice ao (List.replicate n.nodes.toNat (default:Row)).length co),(56,.pointer (some ⟨b,1,none⟩)),(55,.pointer (some ⟨b,0,none⟩)),(54,.pointer (some ⟨b,0,none⟩)),(53,I64 ((at_ n.arcs (k:Int)).dst)),(52,.pointer (some ⟨b38,1,none⟩)),(51,.slice ao (List.replicate n.nodes.toNat (default:Row)).length co),(50,.pointer (some ⟨b,1,none⟩)),(49,.pointer (some ⟨b,0,none⟩)),(48,.pointer (some ⟨b,0,none⟩)),(5,.pointer (some ⟨b38,0,none⟩)),(3,.pointer (some ⟨b,0,none⟩)),(20,v),(21,I64 (((n.arcs.length:Nat):Int))),(22,I64 ((k:Int)))]:Env) (vc 3 (.slice ad42 1 1) (([((hs.length:Nat):Int)+1]:List Int))::vc 3 (.slice ad39 1 1) (([((hs.length:Nat):Int)]:List Int))::blk b38 [I64 ((at_ n.arcs (k:Int)).frm),I64 ((at_ n.arcs (k:Int)).dst),I64 ((at_ n.arcs (k:Int)).cap)] 305::vc 336 (.slice ah hs.length ch) (hs)::blk b [.slice ah hs.length ch,.slice ao (List.replicate n.nodes.toNat (default:Row)).length co,.slice al (List.replicate n.nodes.toNat (default:Int)).length cl,.slice an (List.replicate n.nodes.toNat (default:Int)).length cn,I64 (n.sink)] 339::vc 22 (.slice ao (List.replicate n.nodes.toNat (default:Row)).length co) (List.set rs ((at_ n.arcs (k:Int)).frm).toNat (⟨ad40,cp41,((at_ rs ((at_ n.arcs (k:Int)).frm)).xs++([((hs.length:Nat):Int)]:List Int))⟩:Row))::vc 3 (.slice al (List.replicate n.nodes.toNat (default:Int)).length cl) (List.replicate n.nodes.toNat (default:Int))::vc 3 (.slice an (List.replicate n.nodes.toNat (default:Int)).length cn) (List.replicate n.nodes.toNat (default:Int))::blk b1 [I64 (n.nodes),I64 (n.source),I64 (n.sink),v] 303::(rowsI (List.set (List.set rs ((at_ n.arcs (k:Int)).frm).toNat (⟨ad40,cp41,((at_ rs ((at_ n.arcs (k:Int)).frm)).xs++([((hs.length:Nat):Int)]:List Int))⟩:Row)) ((at_ n.arcs (k:Int)).dst).toNat (⟨ad43,cp44,((at_ (List.set rs ((at_ n.arcs (k:Int)).frm).toNat (⟨ad40,cp41,((at_ rs ((at_ n.arcs (k:Int)).frm)).xs++([((hs.length:Nat):Int)]:List Int))⟩:Row)) ((at_ n.arcs (k:Int)).dst)).xs++([((hs.length:Nat):Int)+1]:List Int))⟩:Row))++I))
   refine Dr 22 rfl (A8 (α:=Row) (xs:=List.set rs ((at_ n.arcs (k:Int)).frm).toNat (⟨ad40,cp41,((at_ rs ((at_ n.arcs (k:Int)).frm)).xs++([((hs.length:Nat):Int)]:List Int))⟩:Row)) Bp ty22 rfl rfl Br om om) (C4 kr ?_)
   refine Ae 23 rfl (Cy (α:=Row) (xs:=List.set rs ((at_ n.arcs (k:Int)).frm).toNat (⟨ad40,cp41,((at_ rs ((at_ n.arcs (k:Int)).frm)).xs++([((hs.length:Nat):Int)]:List Int))⟩:Row)) (e:=22) (new:=(⟨ad43,cp44,((at_ (List.set rs ((at_ n.arcs (k:Int)).frm).toNat (⟨ad40,cp41,((at_ rs ((at_ n.arcs (k:Int)).frm)).xs++([((hs.length:Nat):Int)]:List Int))⟩:Row)) ((at_ n.arcs (k:Int)).dst)).xs++([((hs.length:Nat):Int)+1]:List Int))⟩:Row)) ty22 rfl rfl rfl om om am) ?_
   rintro _ _ ⟨rfl,rfl⟩
   refine C5 kr ?_
   refine Ai (As (S5 5 3 20 21 22 rfl rfl rfl rfl rfl) (Bo mixed (Bu (vc 3 (.slice ad42 1 1) (([((hs.length:Nat):Int)+1]:List Int))::vc 3 (.slice ad39 1 1) (([((hs.length:Nat):Int)]:List Int))::blk b38 [I64 ((at_ n.arcs (k:Int)).frm),I64 ((at_ n.arcs (k:Int)).dst),I64 ((at_ n.arcs (k:Int)).cap)] 305::blk b [.slice ah hs.length ch,.slice ao (List.replicate n.nodes.toNat (default:Row)).length co,.slice al (List.replicate n.nodes.toNat (default:Int)).length cl,.slice an (List.replicate n.nodes.toNat (default:Int)).length cn,I64 (n.sink)] 339::vc 22 (.slice ao (List.replicate n.nodes.toNat (default:Row)).length co) (List.set (List.set rs ((at_ n.arcs (k:Int)).frm).toNat (⟨ad40,cp41,((at_ rs ((at_ n.arcs (k:Int)).frm)).xs++([((hs.length:Nat):Int)]:List Int))⟩:Row)) ((at_ n.arcs (k:Int)).dst).toNat (⟨ad43,cp44,((at_ (List.set rs ((at_ n.arcs (k:Int)).frm).toNat (⟨ad40,cp41,((at_ rs ((at_ n.arcs (k:Int)).frm)).xs++([((hs.length:Nat):Int)]:List Int))⟩:Row)) ((at_ n.arcs (k:Int)).dst)).xs++([((hs.length:Nat):Int)+1]:List Int))⟩:Row))::vc 3 (.slice al (List.replicate n.nodes.toNat (default:Int)).length cl) (List.replicate n.nodes.toNat (default:Int))::vc 3 (.slice an (List.replicate n.nodes.toNat (default:Int)).length cn) (List.replicate n.nodes.toNat (default:Int))::blk b1 [I64 (n.nodes),I64 (n.source),I64 (n.sink),v] 303::(rowsI (List.set (List.set rs ((at_ n.arcs (k:Int)).frm).toNat (⟨ad40,cp41,((at_ rs ((at_ n.arcs (k:Int)).frm)).xs++([((hs.length:Nat):Int)]:List Int))⟩:Row)) ((at_ n.arcs (k:Int)).dst).toNat (⟨ad43,cp44,((at_ (List.set rs ((at_ n.arcs (k:Int)).frm).toNat (⟨ad40,cp41,((at_ rs ((at_ n.arcs (k:Int)).frm)).xs++([((hs.length:Nat):Int)]:List Int))⟩:Row)) ((at_ n.arcs (k:Int)).dst)).xs++([((hs.length:Nat):Int)+1]:List Int))⟩:Row))++I)) 19 (Dr 0 rfl (Ad rfl) (Dr 1 rfl (Ad rfl) (Dr 2 rfl (Bk rfl) (Dr 3 rfl (Aa fld339_0 rfl) (Dr 4 rfl (Au ty337) ?_))))))))
   refine Dr 5 rfl (Bm (vs:=[_,_,_]) ty305) ?_
   refine Dr 6 rfl (Aa fld305_2 rfl) (Dr 7 rfl (Au ty3) ?_)
   refine Dr 8 rfl (Be (cells:=[_,_,_,_]) ty336 Tryz.underlying336 pl336 rfl rfl) (Dr 9 rfl (Aa fld305_1 rfl) (Dr 10 rfl (Au ty3) ?_))
   refine Dr 11 rfl (Aa fld305_0 rfl) (Dr 12 rfl (Au ty3) ?_)
   refine Dr 13 rfl (Be (cells:=[_,_,_]) ty305 Tryz.underlying305 pl305 rfl rfl) (Dr 14 rfl (Be (cells:=[_,_,_,_]) ty336 Tryz.underlying336 pl336 rfl rfl) (Ds1 15 (Se1 rfl (B9 (α:=Half) (cs:=[I64 ((at_ n.arcs (k:Int)).frm),I64 ((at_ n.arcs (k:Int)).dst),I64 ((at_ n.arcs (k:Int)).cap),I64 ((at_ n.arcs (k:Int)).cap),I64 ((at_ n.arcs (k:Int)).dst),I64 ((at_ n.arcs (k:Int)).frm),I64 (0),I64 (0)]) (xs:=[⟨(at_ n.arcs (k:Int)).frm,(at_ n.arcs (k:Int)).dst,(at_ n.arcs (k:Int)).cap,(at_ n.arcs (k:Int)).cap⟩,⟨(at_ n.arcs (k:Int)).dst,(at_ n.arcs (k:Int)).frm,0,0⟩]) Ce ty336 rfl rfl dc dc rfl kr rfl rfl) fun ad45=>?_)))
   refine Ds1 16 (Se2 rfl (Ca (α:=Half) (e:=336) (xs:=hs) (ys:=([⟨(at_ n.arcs (k:Int)).frm,(at_ n.arcs (k:Int)).dst,(at_ n.arcs (k:Int)).cap,(at_ n.arcs (k:Int)).cap⟩,⟨(at_ n.arcs (k:Int)).dst,(at_ n.arcs (k:Int)).frm,0,0⟩]:List Half)) Ce ty336 rfl rfl rfl mm Br lcn dc rfl (fun _ _=>am)) fun ad46 cp47=>?_)
   refine Ds1 17 (Sr rfl (Bk rfl) Ay ?_)
   refine Dr 18 rfl (Aa fld339_0 rfl) (C4 kr ?_)
   refine Ae 19 rfl (Ci (cs:=[_,_,_,_,_]) (vs:=[_]) (cs':=[_,_,_,_,_]) ty337) ?_
   rintro _ _ ⟨rfl,rfl⟩
   refine C5 kr ?_
   exact Aj (Ai (As (S4 3 20 21 22 rfl rfl rfl rfl) (Aw (Gr (Rad rfl rfl) (Gm rfl (Bj (B6 ((k+1),(ad46),(cp47),(hs++([⟨(at_ n.arcs (k:Int)).frm,(at_ n.arcs (k:Int)).dst,(at_ n.arcs (k:Int)).cap,(at_ n.arcs (k:Int)).cap⟩,⟨(at_ n.arcs (k:Int)).dst,(at_ n.arcs (k:Int)).frm,0,0⟩]:List Half)),(List.set (List.set rs ((at_ n.arcs (k:Int)).frm).toNat (⟨ad40,cp41,((at_ rs ((at_ n.arcs (k:Int)).frm)).xs++([((hs.length:Nat):Int)]:List Int))⟩:Row)) ((at_ n.arcs (k:Int)).dst).toNat (⟨ad43,cp44,((at_ (List.set rs ((at_ n.arcs (k:Int)).frm).toNat (⟨ad40,cp41,((at_ rs ((at_ n.arcs (k:Int)).frm)).xs++([((hs.length:Nat):Int)]:List Int))⟩:Row)) ((at_ n.arcs (k:Int)).dst)).xs++([((hs.length:Nat):Int)+1]:List Int))⟩:Row))) (by dsimp only;exact ⟨om,(hO.step hok om _ _ _ _ om om rfl rfl)⟩))))))))
  ·refine Bt (Ak (Ak (A6 (Ai (Ah (Gm rfl (Ga rfl (Af (A2 ?_)))))))))
   have hdn:=hO.done hok om
   exact A7 rfl rfl (blk b [.slice ah hs.length ch,.slice ao (List.replicate n.nodes.toNat (default:Row)).length co,.slice al (List.replicate n.nodes.toNat (default:Int)).length cl,.slice an (List.replicate n.nodes.toNat (default:Int)).length cn,I64 (n.sink)] 339::vc 336 (.slice ah hs.length ch) (hs)::vc 3 (.slice al (List.replicate n.nodes.toNat (default:Int)).length cl) (List.replicate n.nodes.toNat (default:Int))::vc 3 (.slice an (List.replicate n.nodes.toNat (default:Int)).length cn) (List.replicate n.nodes.toNat (default:Int))::vc 22 (.slice ao (List.replicate n.nodes.toNat (default:Row)).length co) (rs)::(rowsI rs++I)) B7 ⟨_,_,_,_,_,hs,rs,(List.replicate n.nodes.toNat (default:Int)),(List.replicate n.nodes.toNat (default:Int)),rfl,⟨hdn.1,hdn.2,by rw [List.length_replicate];omega,by rw [List.length_replicate];omega⟩,rfl⟩
theorem Solved_ok{κ:Ctx}{I:List Item}{n:Net}{v:Value}(hl:Sl κ I v n.arcs)(hok:n.Ok) :
    CallS Tryz.prog κ 317 [.agg #[I64 (n.nodes),I64 (n.source),I64 (n.sink),v]] I (fun r J=>∃(b:Nat) (hw ow lw nw:Value) (f:List Int) (hs:List Half) (rs:List Row) (L nx:List Int) (val:Int),r = .tuple #[.pointer (some ⟨b,0,none⟩),I64 val]∧(Full n f val∧HOk n f hs∧ROk n (rowsL rs))∧J=blk b [hw,ow,lw,nw,I64 (n.sink)] 339::vc 336 (hw) (hs)::vc 3 (lw) (L)::vc 3 (nw) (nx)::(vc 22 ow rs::(rowsI rs++I))):=by
 refine Ce1 Tryz.func317 rfl rfl ?_
 refine Ah (Ge1 (Bb (cs:=[_,_,_,_]) rfl rfl rfl) fun b1=>Ga rfl (Ga rfl (Af (Ah (Gl4 ty303 ?_)))))
 refine G.e (Am call335 rfl rfl (Open_ok (n:=n) (Bf hl) hok)) ?_
 rintro _ _ ⟨_,_,⟨b,hw,ow,lw,nw,hs,rs,L,nx,rfl,⟨hh,hr,hL,hN⟩,rfl⟩,rfl,rfl⟩
 refine G.fit (J:=blk b [hw,ow,lw,nw,I64 (n.sink)] 339::vc 336 (hw) (hs)::vc 3 (lw) (L)::vc 3 (nw) (nx)::vc 22 (ow) (rs)::blk b1 [I64 (n.nodes),I64 (n.source),I64 (n.sink),v] 303::(rowsI rs++I)) B7 ?_
 refine Ga rfl (Af (Ah (Gm rfl (Gm rfl (Gf fld303_1 rfl (Gl ty3 ?_))))))
 refine G.e (Am call336 rfl rfl (Greatest_ok (n:=n) hok hh hr Br (fun i h0 h=>Ch (rowsI_sl i h0 h) A4) hL hN (flow_zero n hok).1 (flow_zero n hok).2)) ?_
 rintro _ _ ⟨_,_,⟨val,f,hs2,L2,nx2,rfl,⟨hfull,hh2⟩,rfl⟩,rfl,rfl⟩
 show G Tryz.prog κ _ _ _ _ ([(11,I64 (val)),(10,I64 (n.source)),(9,.pointer (some ⟨b1,1,none⟩)),(8,.pointer (some ⟨b,0,none⟩)),(7,.pointer (some ⟨b,0,none⟩)),(4,.pointer (some ⟨b,0,none⟩)),(6,.pointer (some ⟨b,0,none⟩)),(5,.agg #[I64 (n.nodes),I64 (n.source),I64 (n.sink),v]),(3,I64 (0)),(2,.pointer none),(1,.pointer (some ⟨b1,0,none⟩)),(0,.agg #[I64 (n.nodes),I64 (n.source),I64 (n.sink),v])]:Env) (blk b [hw,ow,lw,nw,I64 (n.sink)] 339::vc 336 (hw) (hs2)::vc 3 (lw) (L2)::vc 3 (nw) (nx2)::vc 22 (ow) (rs)::blk b1 [I64 (n.nodes),I64 (n.source),I64 (n.sink),v] 303::(rowsI rs++I))
 exact Ga rfl (Ga rfl (Af (As (S2 3 2 rfl rfl) (A2 (C9 rfl rfl rfl (blk b [hw,ow,lw,nw,I64 (n.sink)] 339::vc 336 (hw) (hs2)::vc 3 (lw) (L2)::vc 3 (nw) (nx2)::vc 22 (ow) (rs)::(rowsI rs++I)) B7 ⟨b,hw,ow,lw,nw,f,hs2,rs,L2,nx2,val,rfl,⟨hfull,hh2,hr⟩,rfl⟩)))))
end Go.Sl
namespace Go.Sl
section
variable {P:Program}{κ:Ctx}{N:Frm}{L:Env}{J:List Item}{d:Option Tmp}{ty:TypeId}{ps:String}{af:Array Edge}{gd:Option (Nat×Bool)}{x y:Operand}{T U:TypeId}{k':IntKind}
theorem Runs.mulU{m n r:Int}(hx:evalO L x=some (.int .u64 m))(hy:evalO L y=some (.int .u64 n))(hr:m*n=r)(h0:0≤r)(h1:r<18446744073709551616):Runs P κ N ⟨d,.binOp .mul T x y U,ty,ps,af,gd⟩ L J (.int .u64 r):=by
 have h:=Runs.mulw (P:=P) (κ:=κ) (N:=N) (J:=J) (d:=d) (ty:=ty) (ps:=ps) (af:=af) (gd:=gd) (T:=T) (U:=U) hx hy
 have e:IntKind.u64.wrap (m*n)=r:=by rw [u64_wrap,hr];omega
 rwa [e] at h
theorem Runs.addU{m n r:Int}(hx:evalO L x=some (.int .u64 m))(hy:evalO L y=some (.int .u64 n))(hr:m+n=r)(h0:0≤r)(h1:r<18446744073709551616):Runs P κ N ⟨d,.binOp .add T x y U,ty,ps,af,gd⟩ L J (.int .u64 r):=by
 have h:=Runs.addw (P:=P) (κ:=κ) (N:=N) (J:=J) (d:=d) (ty:=ty) (ps:=ps) (af:=af) (gd:=gd) (T:=T) (U:=U) hx hy
 have e:IntKind.u64.wrap (m+n)=r:=by rw [u64_wrap,hr];omega
 rwa [e] at h
theorem Runs.lowU{m r:Int}(hx:evalO L x=some (.int .u64 m))(hy:evalO L y=some (.int .u64 4294967295))(h0:0≤m)(h1:m<18446744073709551616)(hr:m % 4294967296=r):Runs P κ N ⟨d,.binOp .and T x y U,ty,ps,af,gd⟩ L J (.int .u64 r):=by
 obtain ⟨b,rfl⟩:=u64_nat h0 h1
 have h:=Runs.andB (P:=P) (κ:=κ) (N:=N) (J:=J) (d:=d) (ty:=ty) (ps:=ps) (af:=af) (gd:=gd) (T:=T) (U:=U) (b:=4294967295#64) hx hy
 have e:((b &&& 4294967295#64).toNat:Int)=r:=by
  rw [BitVec.toNat_and,show (4294967295#64).toNat=2 ^ 32 - 1 from rfl,Nat.and_two_pow_sub_one_eq_mod,←hr];rfl
 rw [←e];exact h
theorem Runs.shr32{m r:Int}(hx:evalO L x=some (.int .u64 m))(hy:evalO L y=some (.int k' 32))(hr:m / 4294967296=r):Runs P κ N ⟨d,.binOp .shr T x y U,ty,ps,af,gd⟩ L J (.int .u64 r):=by
 have h:=Runs.shrU (P:=P) (κ:=κ) (N:=N) (J:=J) (d:=d) (ty:=ty) (ps:=ps) (af:=af) (gd:=gd) (T:=T) (U:=U) hx hy (by decide) (by decide)
 rw [show (2:Int) ^ (32:Int).toNat=4294967296 from rfl,hr] at h
 exact h
end
end Go.Sl
namespace Go.Sl
end Go.Sl
namespace Go.Sl
def valN:List Nat→Nat
 |[]=>0
 |b::bs=>2 ^ 8*valN bs+b
theorem and_dig{a b c d:Nat}(hb:b<2 ^ 8)(hd:d<2 ^ 8):(2 ^ 8*a+b) &&& (2 ^ 8*c+d)=2 ^ 8*(a &&& c)+(b &&& d):=by
 refine Nat.eq_of_testBit_eq fun j=>?_
 rw [Nat.testBit_and,Nat.testBit_two_pow_mul_add _ hb,Nat.testBit_two_pow_mul_add _ hd,Nat.testBit_two_pow_mul_add _ (Nat.and_lt_two_pow _ hd)]
 by_cases h:j<8
 ·rw [if_pos h,if_pos h,if_pos h,Nat.testBit_and]
 ·rw [if_neg h,if_neg h,if_neg h,Nat.testBit_and]
def repN(c:Nat)(k:Nat):Nat:=valN (List.replicate k c)
theorem repN_succ(c k:Nat):repN c (k+1)=2 ^ 8*repN c k+c:=rfl
def p1(b:Nat):Nat:=((b / 2) &&& 85)+(b &&& 85)
def p2(b:Nat):Nat:=((b / 4) &&& 51)+(b &&& 51)
def p3(b:Nat):Nat:=(b / 16+b) % 16
theorem c1:∀t:Fin 2,∀x:Fin 128,(128*t.val+x.val) &&& 85=x.val &&& 85:=by decide+kernel
theorem c2:∀t:Fin 4,∀x:Fin 64,(64*t.val+x.val) &&& 51=x.val &&& 51:=by decide+kernel
theorem b1:∀b:Fin 256,p1 b.val<256∧p2 (p1 b.val) % 16≤4∧p2 (p1 b.val) / 16≤4∧p3 (p2 (p1 b.val))≤8∧p3 (p2 (p1 b.val))=((List.range 8).filter fun j=>b.val.testBit j).length:=by decide+kernel
theorem step1:∀bs:List Nat,(∀b∈bs,b<256)→((valN bs / 2) &&& repN 85 bs.length)+(valN bs &&& repN 85 bs.length)=valN (bs.map p1)
 |[],_=>rfl
 |b::bs,h=>by
  have hb:=h b List.mem_cons_self
  have ih:=step1 bs fun x hx=>h x (List.mem_cons_of_mem _ hx)
  rw [List.length_cons,repN_succ,List.map_cons]
  simp only [valN]
  have e:(2 ^ 8*valN bs+b) / 2=2 ^ 8*(valN bs / 2)+(128*(valN bs % 2)+b / 2):=by omega
  have hc:=c1 ⟨valN bs % 2,by omega⟩ ⟨b / 2,by omega⟩
  simp only at hc
  rw [e,and_dig (by omega) (by decide),and_dig (by omega) (by decide),hc]
  rw [show p1 b=(b / 2 &&& 85)+(b &&& 85) from rfl]
  omega
theorem step2:∀bs:List Nat,(∀b∈bs,b<256)→((valN bs / 4) &&& repN 51 bs.length)+(valN bs &&& repN 51 bs.length)=valN (bs.map p2)
 |[],_=>rfl
 |b::bs,h=>by
  have hb:=h b List.mem_cons_self
  have ih:=step2 bs fun x hx=>h x (List.mem_cons_of_mem _ hx)
  rw [List.length_cons,repN_succ,List.map_cons]
  simp only [valN]
  have e:(2 ^ 8*valN bs+b) / 4=2 ^ 8*(valN bs / 4)+(64*(valN bs % 4)+b / 4):=by omega
  have hc:=c2 ⟨valN bs % 4,by omega⟩ ⟨b / 4,by omega⟩
  simp only at hc
  rw [e,and_dig (by omega) (by decide),and_dig (by omega) (by decide),hc]
  rw [show p2 b=(b / 4 &&& 51)+(b &&& 51) from rfl]
  omega
theorem step3:∀bs:List Nat,(∀b∈bs,b % 16≤4∧b / 16≤4)→(valN bs / 16+valN bs) &&& repN 15 bs.length=valN (bs.map p3)
 |[],_=>rfl
 |b::bs,h=>by
  have hb:=h b List.mem_cons_self
  have ih:=step3 bs fun x hx=>h x (List.mem_cons_of_mem _ hx)
  have hn:valN bs % 16≤4:=by
   cases bs with
   |nil=>simp [valN]
   |cons c cs=>
    have:=(h c (List.mem_cons_of_mem _ List.mem_cons_self)).1
    simp only [valN];omega
  rw [List.length_cons,repN_succ,List.map_cons]
  simp only [valN]
  have e:(2 ^ 8*valN bs+b) / 16+(2 ^ 8*valN bs+b)=2 ^ 8*(valN bs / 16+valN bs)+(16*(valN bs % 16)+b / 16+b):=by omega
  rw [e,and_dig (by omega) (by decide),ih,show (15:Nat)=2 ^ 4 - 1 by decide,Nat.and_two_pow_sub_one_eq_mod]
  rw [show p3 b=(b / 16+b) % 16 from rfl]
  omega
def bytesN(n:Nat):Nat→List Nat
 |0=>[]
 |k+1=>n % 256::bytesN (n / 256) k
theorem bytesN_len(n k:Nat):(bytesN n k).length=k:=by
 induction k generalizing n with
 |zero=>rfl
 |succ k ih=>simp [bytesN,ih]
theorem bytesN_lt(n k:Nat):∀b∈bytesN n k,b<256:=by
 induction k generalizing n with
 |zero=>intro b hb;cases hb
 |succ k ih=>
  intro b hb
  rcases List.mem_cons.1 hb with rfl|hb
  ·omega
  ·exact ih _ b hb
theorem bytesN_val:∀(k n:Nat),n<256 ^ k→valN (bytesN n k)=n
 |0,n,h=>by simp at h;subst h;rfl
 |k+1,n,h=>by
  rw [Nat.pow_succ] at h
  simp only [bytesN,valN]
  rw [bytesN_val k (n / 256) (by omega)]
  omega
def sumN':List Nat→Nat
 |[]=>0
 |b::bs=>b+sumN' bs
theorem cnt_val:∀bs:List Nat,(∀b∈bs,b<256)→((List.range (8*bs.length)).filter fun j=>(valN bs).testBit j).length=sumN' (bs.map fun b=>p3 (p2 (p1 b)))
 |[],_=>rfl
 |b::bs,h=>by
  have hb:=h b List.mem_cons_self
  have ih:=cnt_val bs fun x hx=>h x (List.mem_cons_of_mem _ hx)
  rw [List.length_cons,show 8*(bs.length+1)=8+8*bs.length by omega,List.range_add,List.filter_append,List.length_append,List.map_cons]
  simp only [sumN',valN]
  rw [←ih,(b1 ⟨b,hb⟩).2.2.2.2,List.filter_map,List.length_map]
  congr 2
  ·refine List.filter_congr fun j hj=>?_
   rw [Nat.testBit_two_pow_mul_add _ hb,if_pos (List.mem_range.1 hj)]
  ·refine List.filter_congr fun j hj=>?_
   show (2 ^ 8*valN bs+b).testBit (8+j)=_
   rw [Nat.testBit_two_pow_mul_add _ hb,if_neg (by omega),Nat.add_sub_cancel_left]
theorem fold4{d0 d1 d2 m2 m3 n m1 n4:Nat}(h0:d0≤8)(h1:d1≤8)(h2:d2≤8)(en:n=d0+256*d1+65536*m2)(e1:m1=d1+256*d2+65536*m3)(h4:n4=n+m1) :
  n4=(d0+d1)+256*(d1+d2)+65536*(m2+m3)∧n4 / 65536=m2+m3:=by omega
theorem fold5{a b c u n4 n5:Nat}(ha:a≤16)(hb:b≤16)(hc:c<65536)(h4:n4=a+256*b+65536*(c+65536*u))(h5:n5=n4+(c+65536*u)):n5=a+256*b+c+65536*(c+u)+4294967296*u:=by omega
theorem fold6{x c u s t n5:Nat}(hx:x<65536)(hc:c≤5000)(hs:s≤5000)(hu:u=s+65536*t)(h5:n5=x+65536*(c+u)+4294967296*u):n5 / 4294967296=u+t:=by omega
theorem fold_sum{d0 d1 d2 d3 d4 d5 d6 d7 m1 m2 m3 m4 m5 m6 n n4 n5 n6:Nat}(h0:d0≤8)(h1:d1≤8)(h2:d2≤8)(h3:d3≤8)(h4:d4≤8)(h5:d5≤8)(h6:d6≤8)(h7:d7≤8)
  (e6:m6=d6+256*d7) (e5:m5=d5+256*d6+65536*d7) (e4:m4=d4+256*d5+65536*m6) (e3:m3=d3+256*d4+65536*m5) (e2:m2=d2+256*d3+65536*m4) (e1:m1=d1+256*d2+65536*m3) (e0:n=d0+256*d1+65536*m2)
  (g4:n4=n+m1) (g5:n5=n4+n4 / 65536) (g6:n6=n5+n5 / 4294967296):n6 % 128=d0+d1+d2+d3+d4+d5+d6+d7:=by
 obtain ⟨a1,a2⟩:=fold4 h0 h1 h2 e0 e1 g4
 have hc:m2+m3=((d2+d3)+256*(d3+d4))+65536*(m4+m5):=by clear e0 e1 e4 e5 e6 g4 g5 g6 a1 a2;omega
 have hu:m4+m5=((d4+d5)+256*(d5+d6))+65536*(m6+d7):=by clear e0 e1 e2 e3 e6 g4 g5 g6 a1 a2 hc;omega
 rw [a2,hc] at g5
 rw [hc] at a1
 have b1:=fold5 (by omega) (by omega) (by omega) a1 g5
 have b2:=fold6 (x:=d0+d1+256*(d1+d2)+((d2+d3)+256*(d3+d4))) (by omega) (by omega) (by omega) hu b1
 rw [b2] at g6
 clear b2 a2 hc e0 e1 e2 e3 e4 e5 g4 g5 a1
 omega
theorem fold_all{bs:List Nat}{n n4 n5 n6:Nat}(hl:bs.length=8)(hb:∀b∈bs,b≤8)(hn:n=valN bs)(g4:n4=n+n / 256)(g5:n5=n4+n4 / 65536)(g6:n6=n5+n5 / 4294967296):n6 % 128=sumN' bs∧n6<18446744073709551616:=by
 match bs,hl with
 |[d0,d1,d2,d3,d4,d5,d6,d7],_=>
  have k0:=hb d0 (by simp)
  have k1:=hb d1 (by simp)
  have k2:=hb d2 (by simp)
  have k3:=hb d3 (by simp)
  have k4:=hb d4 (by simp)
  have k5:=hb d5 (by simp)
  have k6:=hb d6 (by simp)
  have k7:=hb d7 (by simp)
  obtain ⟨m6,e6⟩:∃m6,m6=d6+256*d7:=⟨_,rfl⟩
  obtain ⟨m5,e5⟩:∃m5,m5=d5+256*d6+65536*d7:=⟨_,rfl⟩
  obtain ⟨m4,e4⟩:∃m4,m4=d4+256*d5+65536*m6:=⟨_,rfl⟩
  obtain ⟨m3,e3⟩:∃m3,m3=d3+256*d4+65536*m5:=⟨_,rfl⟩
  obtain ⟨m2,e2⟩:∃m2,m2=d2+256*d3+65536*m4:=⟨_,rfl⟩
  obtain ⟨m1,e1⟩:∃m1,m1=d1+256*d2+65536*m3:=⟨_,rfl⟩
  have e0:n=d0+256*d1+65536*m2:=by rw [hn];simp only [valN];omega
  have ed:n / 256=m1:=by
   have:n=d0+256*m1:=by clear g4 g5 g6;rw [hn];simp only [valN];omega
   clear e0 e1 e2 e3 e4 e5 e6 g4 g5 g6 hn
   omega
  rw [ed] at g4
  refine ⟨?_,?_⟩
  ·rw [fold_sum k0 k1 k2 k3 k4 k5 k6 k7 e6 e5 e4 e3 e2 e1 e0 g4 g5 g6];simp only [sumN'];omega
  ·have q6:m6≤2056:=by omega
   have q5:m5≤526344:=by omega
   have q4:m4≤134744072:=by clear g4 g5 g6 hn e0 e1 e2 e3 ed;omega
   have q3:m3≤34494482440:=by clear g4 g5 g6 hn e0 e1 e2 e4 ed;omega
   have q2:m2≤8830587504648:=by clear g4 g5 g6 hn e0 e1 e3 e4 e5 e6 ed;omega
   have q1:m1≤2260630401189896:=by clear g4 g5 g6 hn e0 e2 e4 e5 e6 ed;omega
   have q0:n≤578721382704613384:=by clear g4 g5 g6 hn e1 e3 e4 e5 e6 ed;omega
   clear e0 e1 e2 e3 e4 e5 e6 hn ed
   omega
theorem valN_le{c:Nat}:∀bs:List Nat,(∀b∈bs,b≤c)→valN bs≤repN c bs.length
 |[],_=>Nat.le_refl _
 |b::bs,h=>by
  have ih:=valN_le bs fun x hx=>h x (List.mem_cons_of_mem _ hx)
  have hb:=h b List.mem_cons_self
  rw [List.length_cons,repN_succ]
  simp only [valN]
  omega
end Go.Sl
namespace Go.Sl
open Go.Proofs
set_option maxRecDepth 4000
variable {κ:Ctx}{I:List Item}
theorem tz_small(m:BitVec 64):0≤tzTab.getD (tzIx m) 0∧tzTab.getD (tzIx m) 0≤64:=by
 have h:∀k:Fin 64,0≤tzTab.getD k.val 0∧tzTab.getD k.val 0≤64:=by decide+kernel
 exact h ⟨tzIx m,tzIx_lt m⟩
theorem Tz_ok(m:BitVec 64)(hT:TabRd κ I 0 tzCells) :
    CallS Tryz.prog κ 234 [U64 (m)] I (fun r J=>r=I64 (tzB m)∧I=J):=by
 refine Ce1 Tryz.func234 rfl rfl ?_
 refine Ah (Ga rfl (Af (Ao (Ah (Gm rfl (Gr (Runs.eqB (a:=m) (b:=0#64) rfl rfl) (Af (A9 rfl (fun c4=>?_) (fun c4=>?_)))))))))
 ·exact Ah (Ga rfl (Af (A2 (Al (A7 rfl rfl (I) A4 ⟨by unfold tzB;rw [if_pos c4],rfl⟩)))))
 ·exact A0 (Ai (Ah (Gm rfl (Gm rfl (Gr (Runs.negB (a:=m) rfl) (Gr (C0 (a:=m) (b:= -m) rfl rfl) (Gr (Runs.mulB (a:=m &&& (-m)) (b:=285870213051353865#64) rfl rfl) (Gr (E6 (a:=(m &&& (-m))*285870213051353865#64) rfl rfl om om) (Gr (Runs.idxArrU (i:=tzIx m) Tryz.underlying310 ty5 rfl rfl (tzIx_lt m)) (Gr (Runs.loadTab ty5 rfl (Cc hT A4) (tzCells_at m)) (Gr (Runs.convI E4 Bl rfl (by unfold InR;have:=tz_small m;omega)) (Ga rfl (Af (As (S1 2 rfl) (A2 (A7 rfl rfl (I) A4 ⟨by unfold tzB;rw [if_neg c4],rfl⟩))))))))))))))))
theorem MList_ok(m:BitVec 64)(hT:TabRd κ I 0 tzCells) :
    CallS Tryz.prog κ 171 [U64 (m)] I (fun r J=>∃a c,r = .slice a (listB m).length c∧J=vc 3 (.slice a (listB m).length c) (listB m)::I):=by
 refine Ce1 Tryz.func171 rfl rfl ?_
 refine Ah (Ga rfl (Af (Ah (Ga rfl (Af (Ao (Ax (Bx (σ:=(BitVec 64)×(Option Addr)×Nat×(List Int)) (fun s=>([(0,U64 (s.1)),(3,.slice s.2.1 s.2.2.2.length s.2.2.1)]:Env)) (fun s=>vc 3 (.slice s.2.1 s.2.2.2.length s.2.2.1) (s.2.2.2)::I) (fun s=>(listB m=s.2.2.2++listB s.1)) (fun s=>(listB s.1).length) (m,none,0,[]) (show (listB m=([]:List Int)++listB (m:BitVec 64)) from rfl) (Ac (Cz rfl (by first|rfl|simp)) (Ac (Cz rfl (by first|rfl|simp)) Bq)) (show Fit κ _ (vc 3 (.slice (none) ([]).length (0)) (([]))::I) from (B3 _ _)) ?_))))))))
 rintro ⟨n,a,c,out⟩ hp
 dsimp only at hp ⊢
 have ho:=hp
 have hol:=congrArg List.length ho
 rw [List.length_append] at hol
 have hml:=Ed m
 refine Ao (Ah (Gm rfl (Gr (D8 (a:=n) (b:=0#64) rfl rfl) (Af (A9 rfl (fun c5=>?_) (fun c5=>?_))))))
 ·refine A0 (Ai (Ao (Ax (Aw (Gm rfl (Gm rfl (G.e (Am call234 rfl rfl (Tz_ok n (Cc hT A4))) ?_)))))))
  rintro _ _ ⟨_,_,⟨rfl,rfl⟩,rfl,rfl⟩
  refine Ge1 (B9 (α:=Int) (cs:=[_]) (xs:=[tzB n]) Ab ty3 rfl rfl dc dc rfl rfl rfl rfl) fun ad1=>?_
  refine Ge2 (Ca (α:=Int) (e:=3) (xs:=out) (ys:=([tzB n]:List Int)) Ab ty3 rfl rfl rfl mm Br lcn dc rfl (fun _ _=>am)) fun ad2 cp3=>?_
  exact Ga rfl (Bj (Aj (Ai (Aw (Gm rfl (Gm rfl (Gr (Runs.subB (a:=n) (b:=1#64) rfl rfl) (Gr (C0 (a:=n) (b:=n - (1#64)) rfl rfl) (Ga rfl (Bj (B6 ((n &&& (n - (1#64))),(ad2),(cp3),(out++([tzB n]:List Int))) (by dsimp only;exact (by rw [ho,listB_step c5,List.append_assoc];rfl)) (hlt:=by (try dsimp only);exact (listB_less c5)))))))))))))
 ·refine Bt (Ak (Ak (A6 (Ai (Ah (Gm rfl (Ga rfl (Af (A2 ?_)))))))))
  have hn0:n=0#64:=Classical.not_not.1 c5
  have hE:out=listB m:=by rw [ho,hn0,C8,List.append_nil]
  subst hE
  exact A7 rfl rfl (vc 3 (.slice a (listB m).length c) (listB m)::I) Ay ⟨a,c,rfl,rfl⟩
theorem ones1_val{m:BitVec 64}{bs:List Nat}(hl:bs.length=8)(hb:∀b∈bs,b<256)(hm:m.toNat=valN bs):(ones1 m).toNat=valN (bs.map p1):=by
 unfold ones1
 have hle:valN (bs.map p1)≤repN 255 8:=by
  have:=valN_le (c:=255) (bs.map p1) fun b h=>by obtain ⟨x,hx,rfl⟩:=List.mem_map.1 h;have:=(b1 ⟨x,hb x hx⟩).1;simp only at this;omega
  rwa [List.length_map,hl] at this
 rw [BitVec.toNat_add,BitVec.toNat_and,BitVec.toNat_and,BitVec.toNat_ushiftRight,Nat.shiftRight_eq_div_pow,show 2 ^ (1:Int).toNat=2 from rfl,hm,show (6148914691236517205#64).toNat=repN 85 bs.length by rw [hl];decide+kernel,step1 bs hb]
 exact Nat.mod_eq_of_lt (Nat.lt_of_le_of_lt hle (by decide+kernel))
theorem ones2_val{m:BitVec 64}{bs:List Nat}(hl:bs.length=8)(hb:∀b∈bs,b<256∧p2 b<256)(hm:m.toNat=valN bs):(ones2 m).toNat=valN (bs.map p2):=by
 unfold ones2
 have hle:valN (bs.map p2)≤repN 255 8:=by
  have:=valN_le (c:=255) (bs.map p2) fun b h=>by obtain ⟨x,hx,rfl⟩:=List.mem_map.1 h;have:=(hb x hx).2;omega
  rwa [List.length_map,hl] at this
 rw [BitVec.toNat_add,BitVec.toNat_and,BitVec.toNat_and,BitVec.toNat_ushiftRight,Nat.shiftRight_eq_div_pow,show 2 ^ (2:Int).toNat=4 from rfl,hm,show (3689348814741910323#64).toNat=repN 51 bs.length by rw [hl];decide+kernel,step2 bs fun b h=>(hb b h).1]
 exact Nat.mod_eq_of_lt (Nat.lt_of_le_of_lt hle (by decide+kernel))
theorem ones3_val{m:BitVec 64}{bs:List Nat}(hl:bs.length=8)(hb:∀b∈bs,b % 16≤4∧b / 16≤4)(hm:m.toNat=valN bs):(ones3 m).toNat=valN (bs.map p3):=by
 unfold ones3
 have hle:valN bs≤repN 68 8:=by
  have:=valN_le (c:=68) bs fun b h=>by have:=hb b h;omega
  rwa [hl] at this
 have hr:repN 68 8=4919131752989213764:=by decide+kernel
 rw [BitVec.toNat_and,BitVec.toNat_add,BitVec.toNat_ushiftRight,Nat.shiftRight_eq_div_pow,show 2 ^ (4:Int).toNat=16 from rfl,hm,show (1085102592571150095#64).toNat=repN 15 bs.length by rw [hl];decide+kernel,Nat.mod_eq_of_lt om,step3 bs hb]
theorem ones_pop(m:BitVec 64):onesB m=((listB m).length:Int):=by
 unfold onesB
 have hl:=bytesN_len m.toNat 8
 have hlt:=bytesN_lt m.toNat 8
 have hv:=bytesN_val 8 m.toNat (Nat.lt_of_lt_of_le m.isLt dc)
 generalize bytesN m.toNat 8=bs at hl hlt hv
 have hb:=fun b (h:b∈bs)=>b1 ⟨b,hlt b h⟩
 have e1:=ones1_val hl hlt hv.symm
 have e2:=ones2_val (bs:=bs.map p1) (by rw [List.length_map,hl]) (fun b h=>by obtain ⟨x,hx,rfl⟩:=List.mem_map.1 h;have:=hb x hx;simp only at this;exact ⟨this.1,by omega⟩) e1
 have e3:=ones3_val (bs:=(bs.map p1).map p2) (by rw [List.length_map,List.length_map,hl]) (fun b h=>by obtain ⟨y,hy,rfl⟩:=List.mem_map.1 h;obtain ⟨x,hx,rfl⟩:=List.mem_map.1 hy;have:=hb x hx;simp only at this;exact ⟨this.2.1,this.2.2.1⟩) e2
 generalize ones3 (ones2 (ones1 m))=a at e3
 have hc:valN bs=m.toNat:=hv
 have hcnt:=cnt_val bs hlt
 obtain ⟨f1,f2⟩:=fold_all (n:=a.toNat) (n4:=a.toNat+a.toNat / 256) (n5:=a.toNat+a.toNat / 256+(a.toNat+a.toNat / 256) / 65536) (n6:=a.toNat+a.toNat / 256+(a.toNat+a.toNat / 256) / 65536+(a.toNat+a.toNat / 256+(a.toNat+a.toNat / 256) / 65536) / 4294967296)
  (bs:=((bs.map p1).map p2).map p3) (by rw [List.length_map,List.length_map,List.length_map,hl]) (fun b h=>by obtain ⟨z,hz,rfl⟩:=List.mem_map.1 h;obtain ⟨y,hy,rfl⟩:=List.mem_map.1 hz;obtain ⟨x,hx,rfl⟩:=List.mem_map.1 hy;have:=hb x hx;simp only at this;exact this.2.2.2.1) e3 rfl rfl rfl
 have g4:(ones4 a).toNat=a.toNat+a.toNat / 256:=by
  unfold ones4;rw [BitVec.toNat_add,BitVec.toNat_ushiftRight,Nat.shiftRight_eq_div_pow,show 2 ^ (8:Int).toNat=256 from rfl];exact Nat.mod_eq_of_lt om
 have g5:(ones5 (ones4 a)).toNat=a.toNat+a.toNat / 256+(a.toNat+a.toNat / 256) / 65536:=by
  unfold ones5;rw [BitVec.toNat_add,BitVec.toNat_ushiftRight,Nat.shiftRight_eq_div_pow,show 2 ^ (16:Int).toNat=65536 from rfl,g4];exact Nat.mod_eq_of_lt om
 have g6:(ones6 (ones5 (ones4 a))).toNat=a.toNat+a.toNat / 256+(a.toNat+a.toNat / 256) / 65536+(a.toNat+a.toNat / 256+(a.toNat+a.toNat / 256) / 65536) / 4294967296:=by
  unfold ones6;rw [BitVec.toNat_add,BitVec.toNat_ushiftRight,Nat.shiftRight_eq_div_pow,show 2 ^ (32:Int).toNat=4294967296 from rfl,g5];exact Nat.mod_eq_of_lt om
 have hL:(listB m).length=sumN' (((bs.map p1).map p2).map p3):=by
  unfold listB listN
  rw [List.length_map,List.map_map,List.map_map,show (fun i=>m.getLsbD i)=fun j=>(valN bs).testBit j from by funext j;rw [hc];rfl]
  rw [hl] at hcnt
  exact hcnt
 rw [g6,hL,←f1]
 omega
variable {κ:Ctx}{I:List Item}
def meetL(xs ys:List Int):List Int:=(ofL xs).filter fun x=>decide (x∈ys)
theorem mem_meetL{xs ys:List Int}{x:Int}:x∈meetL xs ys↔x∈xs∧x∈ys:=by simp [meetL,mem_ofL]
def rangeI(n:Int):List Int:=(List.range (min n 64).toNat).map fun j:Nat=>(j:Int)
theorem mem_rangeI{n x:Int}:x∈rangeI n↔0≤x∧x<n∧x<64:=by
 unfold rangeI
 rw [List.mem_map]
 constructor
 ·rintro ⟨j,hj,rfl⟩;rw [List.mem_range] at hj;omega
 ·rintro ⟨h1,h2,h3⟩;exact ⟨x.toNat,by rw [List.mem_range];omega,by omega⟩
theorem insideN_ok{nd:Int}{es:List Pt}{set:List Int}(h:GrOk nd es):insideN nd es set=(es.filter fun e=>decide (e.u∈set∧e.v∈set)).length:=by
 unfold insideN;rw [if_neg (by rw [checkG_ok.2 h];decide),insideL_eq set h]
theorem Meet_ok{u v:Value}{xs ys:List Int}(hu:Sl κ I u xs)(hv:Sl κ I v ys)(hb:xs.length<17592186044415) :
    CallS Tryz.prog κ 134 [u,v] I (fun r J=>∃a c,r = .slice a (meetL xs ys).length c∧J=vc 3 (.slice a (meetL xs ys).length c) (meetL xs ys)::I):=by
 have hol:=ofL_len xs
 refine Ce2 Tryz.func134 rfl rfl ?_
 refine Ah (Ga rfl (Af (Ah (Ga rfl (Af (Ao (Ah (Gm rfl (Gc2 (Am call82 rfl rfl (Of_ok (Bf hu) om)) fun ad1 cp2=>?_)))))))))
 refine Gr (Bw Ab rfl) (Gm rfl (Af (Ax (Bx (σ:=Nat×(Option Addr)×Nat×(List Int)) (fun s=>([(1,v),(5,.slice s.2.1 s.2.2.2.length s.2.2.1),(9,.slice ad1 (ofL xs).length cp2),(10,I64 ((((ofL xs).length:Nat):Int))),(11,I64 (((s.1:Nat):Int)))]:Env)) (fun s=>vc 3 (.slice s.2.1 s.2.2.2.length s.2.2.1) (s.2.2.2)::vc 3 (.slice ad1 (ofL xs).length cp2) (ofL xs)::I) (fun s=>(s.1≤(ofL xs).length)∧(s.2.2.2=((ofL xs).take s.1).filter (fun x=>decide (x∈ys)))) (fun s=>(ofL xs).length - s.1) (0,none,0,[]) (show ((0:Nat)≤(ofL xs).length)∧(([]:List Int)=((ofL xs).take (0:Nat)).filter (fun x=>decide (x∈ys))) from ⟨om,rfl⟩) (Ac rfl (Ac (Cz rfl (by first|rfl|simp)) (Ac rfl (Ac rfl (Ac Cb Bq))))) (show Fit κ _ (vc 3 (.slice (none) ([]).length (0)) (([]))::vc 3 (.slice ad1 (ofL xs).length cp2) (ofL xs)::I) from (B3 _ _)) ?_))))
 rintro ⟨k,a,c,out⟩ hp
 dsimp only at hp ⊢
 obtain ⟨hk,ho⟩:=hp
 refine Ah (Gr (Bc rfl rfl) (Af (Ao (A9 rfl (fun c12=>?_) (fun c12=>?_)))))
 ·refine A0 (Ai (Ao (Ax (Ah (Gr (A8 (α:=Int) (xs:=ofL xs) Ab ty3 rfl rfl Br om om) (Gr (B2 (xs:=ofL xs) ty3 rfl Br om om) (Ga rfl (Af (Ah (Gm rfl (Gm rfl (Gc0 (Am call72 rfl rfl (RHas_ok (Bf hv) (at_ (ofL xs) (k:Int)))) ?_))))))))))))
  refine Af (A9 rfl (fun c17=>?_) (fun c17=>?_))
  ·refine Aw (Gm rfl (Gm rfl (Ge1 (B9 (α:=Int) (cs:=[_]) (xs:=[at_ (ofL xs) (k:Int)]) Ab ty3 rfl rfl dc dc rfl rfl rfl rfl) fun ad3=>?_)))
   refine Ge2 (Ca (α:=Int) (e:=3) (xs:=out) (ys:=([at_ (ofL xs) (k:Int)]:List Int)) Ab ty3 rfl rfl rfl mm Br (by have:=ofL_len xs;simp only [List.length_cons,List.length_nil];rw [ho];have:=filter_take_len (ofL xs) (fun x=>decide (x∈ys)) k;omega) dc rfl (fun _ _=>am)) fun ad4 cp5=>?_
   exact Ga rfl (Bj (Aj (Ai (As (S5 5 1 9 10 11 rfl rfl rfl rfl rfl) (Aw (Gr (Rad rfl rfl) (Gm rfl (Bj (B6 ((k+1),(ad4),(cp5),(out++([at_ (ofL xs) (k:Int)]:List Int))) (by dsimp only;exact ⟨om,(by first|rw [filter_take_yes _ _ k om (decide_eq_true c17),←ho]|rw [filter_take_no _ _ k om (decide_eq_false c17),←ho])⟩))))))))))
  ·exact A0 (Aj (Ai (Aw (Gr (Rad rfl rfl) (Gm rfl (Bj (B6 ((k+1),(a),(c),(out)) (by dsimp only;exact ⟨om,(by first|rw [filter_take_yes _ _ k om (decide_eq_true c17),←ho]|rw [filter_take_no _ _ k om (decide_eq_false c17),←ho])⟩))))))))
 ·refine Bt (Ak (Ak (A6 (Ai (Ah (Gm rfl (Ga rfl (Af (A2 ?_)))))))))
  have hk2:(ofL xs).take k=ofL xs:=List.take_of_length_le om
  rw [hk2] at ho
  have ho2:out=meetL xs ys:=ho
  subst ho2
  exact A7 rfl rfl (vc 3 (.slice a (meetL xs ys).length c) (meetL xs ys)::I) Ay ⟨a,c,rfl,rfl⟩
theorem Range_ok(n:Int) :
    CallS Tryz.prog κ 135 [I64 (n)] I (fun r J=>∃a c,r = .slice a (rangeI n).length c∧J=vc 3 (.slice a (rangeI n).length c) (rangeI n)::I):=by
 refine Ce1 Tryz.func135 rfl rfl ?_
 refine Ah (Ga rfl (Af (Ah (Ga rfl (Af (Ao (Ah (Ga rfl (Af (Ax (Bx (σ:=Nat×(Option Addr)×Nat×(List Int)) (fun s=>([(0,I64 (n)),(3,.slice s.2.1 s.2.2.2.length s.2.2.1),(4,I64 (((s.1:Nat):Int)))]:Env)) (fun s=>vc 3 (.slice s.2.1 s.2.2.2.length s.2.2.1) (s.2.2.2)::I) (fun s=>(s.1≤(min n 64).toNat)∧(s.2.2.2=(List.range s.1).map fun j:Nat=>(j:Int))) (fun s=>(min n 64).toNat - s.1) (0,none,0,[]) (show ((0:Nat)≤(min n 64).toNat)∧(([]:List Int)=(List.range (0:Nat)).map fun j:Nat=>(j:Int)) from ⟨om,rfl⟩) (Ac rfl (Ac (Cz rfl (by first|rfl|simp)) (Ac Cb Bq))) (show Fit κ _ (vc 3 (.slice (none) ([]).length (0)) (([]))::I) from (B3 _ _)) ?_)))))))))))
 rintro ⟨k,a,c,out⟩ hp
 dsimp only at hp ⊢
 obtain ⟨hk,ho⟩:=hp
 have hol:out.length=k:=by rw [ho];simp
 refine Ao (Ah (Gm rfl (Gm rfl (Gr (Bc rfl rfl) (Gm rfl (Bi (d:=8) rfl (fun g8=>?_) (fun g8=>?_)))))))
 ·refine Gro (Ad rfl) (Gro (Bc rfl rfl) (Gr (Ap rfl rfl) (Af (A9 rfl (fun c11=>?_) (fun c11=>?_)))))
  ·refine A0 (Ai (Ao (Ax (Aw (Gm rfl (Gm rfl (Ge1 (B9 (α:=Int) (cs:=[_]) (xs:=[(k:Int)]) Ab ty3 rfl rfl dc dc rfl rfl rfl rfl) fun ad1=>?_)))))))
   refine Ge2 (Ca (α:=Int) (e:=3) (xs:=out) (ys:=([(k:Int)]:List Int)) Ab ty3 rfl rfl rfl mm Br lcn dc rfl (fun _ _=>am)) fun ad2 cp3=>?_
   exact Ga rfl (Bj (Aj (Ai (As (S3 3 0 4 rfl rfl rfl) (Aw (Gm rfl (Gr (Rad rfl rfl) (Ga rfl (Bj (B6 ((k+1),(ad2),(cp3),(out++([(k:Int)]:List Int))) (by dsimp only;exact ⟨om,(by rw [List.range_succ,List.map_append,←ho];rfl)⟩)))))))))))
  ·refine Bt (Ak (Ak (A6 (Ai (Ah (Gm rfl (Ga rfl (Af (A2 ?_)))))))))
   have ho2:out=rangeI n:=by rw [ho];unfold rangeI;congr 2;omega
   subst ho2
   exact A7 rfl rfl (vc 3 (.slice a (rangeI n).length c) (rangeI n)::I) Ay ⟨a,c,rfl,rfl⟩
 ·refine Gpo (Gpo (Gr (Av rfl rfl) (Af (Cx rfl (Bt (Ak (Ak (A6 (Ai (Ah (Gm rfl (Ga rfl (Af (A2 ?_))))))))))))))
  have ho2:out=rangeI n:=by rw [ho];unfold rangeI;congr 2;omega
  subst ho2
  exact A7 rfl rfl (vc 3 (.slice a (rangeI n).length c) (rangeI n)::I) Ay ⟨a,c,rfl,rfl⟩
end Go.Sl
namespace Go.Sl
end Go.Sl
namespace Go.Sl
end Go.Sl
namespace Go.Sl
section
variable {α:Type}[Enc α]{κ:Ctx}{I:List Item}
def ownR(e:TypeId)(rs:List (RowG α)):List Item:=rs.map fun r=>vc e (.slice r.a r.xs.length r.c) r.xs
theorem Fit.ownR_snoc{e:TypeId}{rs:List (RowG α)}{r:RowG α}{A:List Item}:Fit κ (A++vc e (.slice r.a r.xs.length r.c) r.xs::(ownR e rs++I)) (A++(ownR e (rs++[r])++I)):=by
 refine Fit.perm (List.Perm.append_left A ?_)
 have e1:ownR e (rs++[r])++I=ownR e rs++vc e (.slice r.a r.xs.length r.c) r.xs::I:=by simp [ownR]
 rw [e1]
 exact List.perm_middle.symm
end
end Go.Sl
